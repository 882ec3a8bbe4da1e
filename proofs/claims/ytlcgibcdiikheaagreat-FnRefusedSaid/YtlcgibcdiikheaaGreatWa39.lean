import Derived.Test.YtlcgibcdiikheaaGreatWa35
import Derived.Test.YtlcgibcdiikheaaGreatWa36
namespace Go.Kx
open Go Go.RowKit Go.Proofs
open Tryz
set_option maxRecDepth 10000
set_option maxHeartbeats 8000000
set_option linter.unusedVariables false
set_option linter.unusedSimpArgs false
theorem Fg {w0 N b r} (h:td N b=some r) {d u l} (G:u=b.PB.PA.length) (O:rb w0 d l b.PB.PA) {f x m} (H:x=b.own.length) (R:rb w0 f m b.own) {g z n} (I:z=b.PC.length) (U:rb w0 g n b.PC) {i A o} (J:A=b.py.ag.length) (V:rb w0 i o b.py.ag) {j B p} (K:B=b.py.gc.hZ.length) (W:rb w0 j p b.py.gc.hZ) {k C q} (L:C=b.ia.length) (X:rb w0 k q b.ia) :
    iq prog 153 #[.agg #[vS d u l,vS f x m,vS g z n,vS i A o,vI b.py.gc.PD,vI b.py.gc.PL,vI b.py.gc.PF,vS j B p,vS k C q,vI b.PJ,vI b.PI,vI b.hY.bh,vI b.hY.ib,vI b.hY.ij,vI b.ik,vI b.PH]] w0 (fun v w=>v=.agg #[vI r.bh,vI r.ib,vI r.ij]∧St w0 [] w []):=by
 subst G H I J K L;unfold td at h;refine iq.fn func153 fun e=>?_;have af:=St.start w0;refine T ?_;intro aB aE ah aC aF ai aJ ap h aG aj aD aH ak aI am ay ac h aq M;refine gc h ?_ ?_<;>intro _ h
 · refine T ?_;intro ar an;exact rt
 refine kb ?_;have ao:=M.drew;refine T ?_;intro az ad h au Y av Z aA ae h aw aa ax ab;exact rt
instance k_153:Ct prog 153:=⟨by kernel_rfl,@Fg⟩
theorem DC {w0 N K R p r} (h:rN N K R p=some r) {d m g} (o:m=K.length) (V:rb w0 d g K) :
    iq prog 219 #[vS d m g,vI R,.agg #[vI p.bh,vI p.ib,vI p.ij]] w0 (fun v w=>∃ q u,v=.tuple #[vS q r.1.length u,.bool r.2]∧St w0 [] w [sl q u r.1]):=by
 subst o;unfold rN at h;refine iq.fn func219 fun e=>?_;have aq:=St.start w0;refine T ?_;intro aV aW ar an aA h aU z aX x;obtain ⟨am,M,X⟩:=ob h;refine CW.jn [0,1,5,8] [0,1] [(26,.bool am)] x (h1:=?_) (h2:=?_)
 · have h:=M;refine dW ?_;have au:=x.drew;refine T ?_;intro aY aB h aD av;refine bH h ?_ ?_<;>intro _ h
   · exact rt
   refine T ?_;intro aN ae h aE aw;refine bH h ?_ ?_<;>intro _ h
   · exact rt
   refine go ?_;refine jP 10 ?_;refine T ?_;intro aO af h aF ax aP ah h aG ay aQ ai h aH az;exact rt
 intro e aI Y;have h:=X;refine gc h ?_ ?_<;>intro _ h
 · exact rt
 refine T ?_;intro aR aj h aJ A;obtain ⟨O,J,L⟩:=ob h;refine CW.jn [5,8] [0,1] [(1,vI O)] A (h1:=?_) (h2:=?_)
 · have h:=J;refine gc h ?_ ?_<;>intro _ h
   · exact rt
   exact rt
 intro e aK B;have h:=L;refine kb ?_;have j:=B.drew;refine gb h fun aS b h=>?_;obtain ⟨f,n,hae,ac,ad⟩:=j.iF (α:=im) (i:=0) rfl b;subst hae;refine go ?_;obtain ⟨ao,k,Z⟩:=j.freeze (α:=im) 0 rfl;obtain ⟨ap,aC,W,hae,aa,_,_,I,ab⟩:=k.kc.idx b;cases hae;obtain rfl:=I;refine T ?_;intro aT ak h aL C;refine go ?_;have G:=C.i7 (α:=im) 0 rfl k;have ⟨U,l,h⟩:=ob h;refine T ?_;refine LW.se 2 G 0 b l (hM:=(ko (fun w cs F hF=>by obtain ⟨rfl,rfl⟩:=hF;exact ⟨rfl,rfl⟩))) fun aM H=>?_;refine T ?_;replace h:=oi h;subst h;exact Rc tt tt ⟨(some ⟨f,n,none⟩),z,(show (.tuple #[vS (some ⟨f,n,none⟩) an.length z,.bool true]:Value)=.tuple #[vS (some ⟨f,n,none⟩) U.length z,.bool true] by rw [iB (oi l)]),H.pk [0]⟩
instance k_219:Ct prog 219:=⟨by kernel_rfl,@DC⟩
theorem Jm {w0 N b W r} (h:vu N b W=some r) {d u l} (G:u=b.PB.PA.length) (X:rb w0 d l b.PB.PA) {f x m} (H:x=b.own.length) (Y:rb w0 f m b.own) {g z n} (I:z=b.PC.length) (M:rb w0 g n b.PC) {i A o} (J:A=b.py.ag.length) (O:rb w0 i o b.py.ag) {j B p} (K:B=b.py.gc.hZ.length) (Z:rb w0 j p b.py.gc.hZ) {k C q} (L:C=b.ia.length) (aa:rb w0 k q b.ia) :
    iq prog 308 #[.agg #[vS d u l,vS f x m,vS g z n,vS i A o,vI b.py.gc.PD,vI b.py.gc.PL,vI b.py.gc.PF,vS j B p,vS k C q,vI b.PJ,vI b.PI,vI b.hY.bh,vI b.hY.ib,vI b.hY.ij,vI b.ik,vI b.PH],vI W] w0 (fun v w=>v=.agg #[vI r.bh,vI r.ib,vI r.ij]∧St w0 [] w []):=by
 subst G H I J K L;unfold vu at h;refine iq.fn func308 fun e=>?_;have ay:=St.start w0;refine T ?_;intro aL aO az aM aP U;refine dW ?_;have aA:=U.drew;refine gb h fun aQ V h=>?_;obtain ⟨aK,aN,ab,rfl,ad,aD,aE,⟨ap,av,aq,aw,ar,ax,rfl,ak,am,an⟩,af⟩:=O.idx V;refine go ?_;refine T ?_;intro aI ao h aG aB;have ⟨aJ,R,h⟩:=ob h;obtain ⟨au,aF,ac,rfl,ae,ai,aj,rfl,ah⟩:=M.idx R;refine go ?_;refine T ?_;intro aH aC;exact rt
instance k_308:Ct prog 308:=⟨by kernel_rfl,@Jm⟩
theorem wE {w0 N u C G H r} (h:oq N u C G H=some r) {b g d} (j:g=u.length) (k:rb w0 b d u) :
    iq prog 159 #[vS b g d,vI C,vI G,vI H] w0 (fun v w=>v=vI r∧St w0 [] w []):=by
 subst j;unfold oq at h;refine iq.fn func159 fun e=>?_;have aw:=St.start w0;refine T ?_;intro aV aC h aR aS aT z;obtain ⟨ai,A,K⟩:=ob h;refine CW.jn [0,3,9] [0] [(27,.bool ai)] z (h1:=?_) (h2:=?_)
 · have h:=A;refine gB h ?_ ?_<;>intro _ h
   · exact rt
   refine T ?_;intro aW aD h aU ax;refine bH h ?_ ?_<;>intro _ h
   · exact rt
   refine T ?_;intro aM ae h aH ay;exact rt
 intro e aI az;have h:=K;refine gc h ?_ ?_<;>intro _ h
 · exact rt
 refine T ?_;intro aN af h aJ l;obtain ⟨B,o,x⟩:=ob h;refine CW.jn [10] [] [(52,.bool B)] l (h1:=?_) (h2:=?_)
 · have h:=o;refine dW ?_;have aA:=l.drew;refine gb h fun aO q h=>?_;obtain ⟨ao,aE,I,rfl,M,X,Z,⟨ak,ar,am,au,an,av,rfl,ab,ac,ad⟩,V⟩:=k.idx q;refine go ?_;refine T ?_;refine bH h ?_ ?_<;>intro R h
   · exact rt
   refine go ?_;refine T ?_;intro aP ah h aK m;refine bH h ?_ ?_<;>intro U h
   · exact rt
   refine gb h fun aQ f h=>?_;obtain ⟨ap,aF,hae,Y,aa⟩:=m.iF (α:=Bool) (i:=0) rfl f;subst hae;refine go ?_;obtain ⟨aj,p,aB⟩:=m.freeze (α:=Bool) 0 rfl;obtain ⟨aq,aG,J,hae,O,_,_,n,W⟩:=p.kc.idx f;cases hae;obtain rfl:=n;refine T ?_;exact rt
 intro e aL L;have h:=x;refine gc h ?_ ?_<;>intro _ h
 · exact rt
 exact rt
instance k_159:Ct prog 159:=⟨by kernel_rfl,@wE⟩
theorem xn {w0} {F:List Nat} {N b Z C r} (h:og N b Z C=some r) {G:Nat} {g n} (aa:iR (jo w0 F) w0 g n b.Py.PB.PA) {j o} (ab:iR (jo w0 F) w0 j o b.Py.own) {d f k p} (ac:iR (jo w0 F) w0 k p b.Py.py.ag) {l q} (ad:iR (jo w0 F) w0 l q b.Py.py.gc.hZ) {m x} (ae:iR (jo w0 F) w0 m x b.Py.ia) (hS:St w0 F w0 [bx G 188 (qC g n j o d f k p l q m x b),sl d f b.Py.PC]) :
    iq prog 322 #[.pointer (some ⟨G,0,none⟩),vI Z,.agg #[vI C.bh,vI C.ib,vI C.ij]] w0 (fun v w=>∃ A B,v=.bool r.1∧St w0 F w [bx G 188 [vS g b.Py.PB.PA.length n,vS j b.Py.own.length o,vS A r.2.Py.PC.length B,vS k b.Py.py.ag.length p,vI r.2.Py.py.gc.PD,vI r.2.Py.py.gc.PL,vI r.2.Py.py.gc.PF,vS l b.Py.py.gc.hZ.length q,vS m b.Py.ia.length x,vI r.2.Py.PJ,vI r.2.Py.PI,vI r.2.Py.hY.bh,vI r.2.Py.hY.ib,vI r.2.Py.hY.ij,vI r.2.Py.ik,vI r.2.Py.PH,vI r.2.me,vI r.2.PQ,vI r.2.jb],sl A B r.2.Py.PC]):=by
 unfold og at h;refine iq.fn func322 fun e=>?_;refine T ?_;intro aI aJ V;refine dW ?_;have an:=V.drew;refine T ?_;intro R aw h J K aK W;obtain ⟨I,X,af⟩:=ob h;refine CW.cut (fun e wb=>∃ (z:Nat),En e [(0,.pointer (some ⟨G,0,none⟩)),(7,vS J R.1.length K),(8,.bool R.2),(9,.pointer (some ⟨z,0,none⟩)),(10,.bool I.2.2.2)]∧St w0 F wb [sl J K R.1,bx G 188 (qC g n j o d f k p l q m x b),sl d f b.Py.PC,bx z 48 [vI I.1,vI I.2.1,vI I.2.2.1]]) ?_ ?_
 · have h:=X;refine dW ?_;have ao:=W.drew;refine go ?_;refine AW.u (i:=7) rfl (by kernel_rfl) rfl rfl (iQ.build (vs:=[(1,vI C.ib)]) (cs:=#[vI 0,vI C.ib,vI 0]) rfl (by kernel_rfl)) ?_;have ⟨aL,ax,h⟩:=ob h;refine AW.all (rs:=[8,12]) (by kernel_rfl) (by simp) ⟨?_,?_,trivial⟩
   · refine oA ?_;refine T ?_;intro ay ap ak az aq aA ar;exact rt
   refine oA ?_;refine T ?_;intro am aB au;refine jP 8 ?_;refine T ?_;intro aC av aD ah;exact rt
 rintro e aE ⟨z,hE,L⟩;obtain ⟨e,rfl⟩:=hE.out;have h:=af;refine gs ?_;obtain ⟨Y,O,U⟩:=ob h;refine CW.jn [0,7,9] [0,1,2,3] [(39,.bool Y)] L (h1:=?_) (h2:=?_)
 · have h:=O;refine gB h ?_ ?_<;>intro _ h
   · exact rt
   exact rt
 intro e aF H;have h:=U;refine gc h ?_ ?_<;>intro _ h
 · refine go ?_;replace h:=oi h;subst h;exact Ra ⟨d,f,rfl,H.pk [1,2]⟩
 refine kb ?_;have ai:=H.drew;refine T ?_;intro aG aj aH M;replace h:=oi h;subst h;exact Ra ⟨J,K,rfl,M.pk [1,0]⟩
instance k_322:Ct prog 322:=⟨by kernel_rfl,@xn⟩
theorem GV {w0 N b ak r} (h:uo N b ak=some r) {l z n} (C:z=b.ag.length) (H:rb w0 l n b.ag) {m A o} (G:A=b.gc.hZ.length) (am:rb w0 m o b.gc.hZ) :
    iq prog 300 #[.agg #[vS l z n,vI b.gc.PD,vI b.gc.PL,vI b.gc.PF,vS m A o],vI ak] w0 (fun v w=>∃ d g, ∃ f j,v=.agg #[vS d r.ag.length g,vI r.gc.PD,vI r.gc.PL,vI r.gc.PF,vS f r.gc.hZ.length j]∧St w0 [] w [sl d g r.ag,sl f j r.gc.hZ]):=by
 subst C G;unfold uo at h;refine iq.fn func300 fun e=>?_;have aO:=St.start w0;refine T ?_;intro bj bk aP ae bl aQ B aV h aa ac ab ad aZ aR I a0 aS a1 ai;obtain ⟨aj,M,af⟩:=ob h;refine CW.jn [1,2,4,5] [0,1,2,3,4] [(22,.bool aj)] ai (h1:=?_) (h2:=?_)
 · have h:=M;refine T ?_;intro bb aD h a2 aT;refine bH h ?_ ?_<;>intro _ h
   · refine T ?_;intro bc aE h a3 aU;refine bH h ?_ ?_<;>intro _ h
     · refine gb h fun bd R h=>?_;obtain ⟨aI,aW,an,rfl,aq,au,ax,⟨aF,aL,aG,aM,aH,aN,rfl,aA,aB,aC⟩,ar⟩:=H.idx R;refine go ?_;refine T ?_;exact rt
     exact rt
   exact rt
 intro e a4 k;have h:=af;refine gs ?_;obtain ⟨J,O,ah⟩:=ob h;refine CW.cut (fun e wb=>En e [(4,.pointer (some ⟨ae,0,none⟩)),(5,.pointer (some ⟨I,0,none⟩))]∧St w0 [] wb [bx I 45 [vS aa J.length ac,vI B.gc.PD,vI B.gc.PL,vI B.gc.PF,vS ab B.gc.hZ.length ad],sl aa ac J,sl ab ad B.gc.hZ,bx ae 45 [vS none 0 0,vI 0,vI 0,vI 0,vS none 0 0]]) ?_ ?_
 · have h:=O;refine gc h ?_ ?_<;>intro _ h
   · refine gB h ?_ ?_<;>intro _ h
     · refine gb h fun be p h=>?_;obtain ⟨aJ,aX,hae,av,ay⟩:=k.iF (α:=gE) (i:=1) rfl p;subst hae;refine go ?_;refine gb h fun bf q h=>?_;refine LW.se 9 k 1 p q (hM:=(ko (fun w cs F hF=>by obtain ⟨U,X,V,Y,W,Z,rfl,hH⟩:=hF;exact ⟨U,X,V,Y,W,Z,rfl,hH⟩))) fun a5 K=>?_;refine go ?_;rw [iB (oi q)] at K;exact rt
     refine gb h fun bg u h=>?_;obtain ⟨aK,aY,hae,aw,az⟩:=k.iF (α:=gE) (i:=1) rfl u;subst hae;refine go ?_;refine gb h fun bi x h=>?_;refine LW.se 9 k 1 u x (hM:=(ko (fun w cs F hF=>by obtain ⟨U,X,V,Y,W,Z,rfl,hH⟩:=hF;exact ⟨U,X,V,Y,W,Z,rfl,hH⟩))) fun a7 L=>?_;refine go ?_;rw [iB (oi x)] at L;exact rt
   exact rt
 rintro e a9 ⟨hE,ao⟩;obtain ⟨e,rfl⟩:=hE.out;have h:=ah;refine T ?_;intro ba ap;exact rt
instance k_300:Ct prog 300:=⟨by kernel_rfl,@GV⟩
theorem zr {w0 N j O r} (h:px N j O=some r) {o x q} (A:x=j.ag.length) (R:rb w0 o q j.ag) {p z u} (B:z=j.gc.hZ.length) (U:rb w0 p u j.gc.hZ) :
    iq prog 324 #[.agg #[vS o x q,vI j.gc.PD,vI j.gc.PL,vI j.gc.PF,vS p z u],vI O] w0 (fun v w=>∃ k m, ∃ l n,v=.agg #[vS k r.ag.length m,vI r.gc.PD,vI r.gc.PL,vI r.gc.PF,vS l r.gc.hZ.length n]∧St w0 [] w [sl k m r.ag,sl l n r.gc.hZ]):=by
 subst A B;unfold px at h;refine iq.fn func324 fun e=>?_;have af:=St.start w0;refine T ?_;intro aI aJ ah I aK ai aL ap h aE aG aF aH aq aj C ar ak au L;obtain ⟨M,G,J⟩:=ob h;refine CW.jn [1,4,5] [0,1,2,3] [(13,.bool M)] L (h1:=?_) (h2:=?_)
 · have h:=G;refine T ?_;intro aB Y h av am;refine bH h ?_ ?_<;>intro _ h
   · refine T ?_;intro aC Z h aw an;exact rt
   exact rt
 intro e ax ao;have h:=J;refine gs ?_;obtain ⟨b,H,K⟩:=ob h;refine CW.cut (fun e wb=>∃ (d:Ad) (g:Nat) (f:Ad) (i:Nat),En e [(4,.pointer (some ⟨I,0,none⟩)),(5,.pointer (some ⟨C,0,none⟩))]∧St w0 [] wb [bx C 45 [vS d b.1.length g,vI b.2.1,vI b.2.2.1,vI b.2.2.2.1,vS f b.2.2.2.2.length i],bx I 45 [vS none 0 0,vI 0,vI 0,vI 0,vS none 0 0],sl d g b.1,sl f i b.2.2.2.2]) ?_ ?_
 · have h:=H;refine gc h ?_ ?_<;>intro _ h
   · refine T ?_;intro aD aa h ab ad ac ae ay V;exact rt
   exact rt
 rintro e az ⟨d,g,f,i,hE,W⟩;obtain ⟨e,rfl⟩:=hE.out;have h:=K;refine T ?_;intro aA X;exact rt
instance k_324:Ct prog 324:=⟨by kernel_rfl,@zr⟩
theorem CG {w0 N L B b r} (h:qt N L B b=some r) {g n k} (q:n=L.length) (z:rb w0 g k L) :
    iq prog 325 #[vS g n k,vI B,.agg #[vI b.bh,vI b.ib,vI b.ij]] w0 (fun v w=>∃ d f,v=.tuple #[vS d r.1.length f,vI r.2.1,.bool r.2.2]∧St w0 [] w [sl d f r.1]):=by
 subst q;unfold qt at h;refine iq.fn func325 fun e=>?_;have ai:=St.start w0;refine T ?_;intro aD aE aj ac ap h aC I aF M;refine CW.fl [0,1,5,9,21] fun e=>?_;refine gc h ?_ ?_<;>intro _ h
 · exact rt
 refine go ?_;obtain ⟨H,J,C⟩:=ob h;refine CW.mono (CW.lx [0,1,5,9,23,24] [0,1] [0] 0 (fun A=>[(25,vI A)]) (fun r x e wb=>x=.ret∧∃ u,u=r∧∃ v,kI prog f325.results e wb v∧∃ d f,v=.tuple #[vS d u.1.length f,vI u.2.1,.bool u.2.2]∧St w0 [] wb [sl d f u.1]) M J (hb:=?_)) ?_
 · intro A e aG o ak h;refine gc h ?_ ?_<;>intro _ h
   · refine gb h fun az K h=>?_;obtain ⟨ae,aq,U,rfl,V,X,Z,rfl,W⟩:=z.idx K;refine go ?_;refine T ?_;intro ah au am av G;refine CW.fl [0,1,5,9,11,23,24,25,32] fun e=>?_;refine gc h ?_ ?_<;>intro _ h
     · refine jL [(0,.bool true),(1,vI B),(2,.agg #[vI b.bh,vI b.ib,vI b.ij])] #[.bool true,vI B,vI b.bh,vI b.ib,vI b.ij] ?_;have ⟨aA,l,h⟩:=ob h;obtain ⟨j,p,hae,Y,aa⟩:=G.iF (α:=im) (i:=1) rfl l;subst hae;refine go ?_;have ⟨R,m,h⟩:=ob h;refine LW.se 0 G 1 l m (hM:=uB) fun aw O=>?_;refine go ?_;replace h:=oi h;subst h;exact ⟨trivial,rfl,_,rfl,⟨_,kI.three (iD.t rfl) (iD.t rfl) (iD.t rfl),(some ⟨j,p,none⟩),I,(show (.tuple #[vS (some ⟨j,p,none⟩) ac.1.length I,vI A,.bool true]:Value)=.tuple #[vS (some ⟨j,p,none⟩) R.length I,vI A,.bool true] by rw [iB (oi m)]),O.pk [1]⟩⟩
     exact rt
   exact rt
 intro x e ax hM;rcases H with H | ar
 · obtain ⟨rfl,hM⟩:=hM;obtain ⟨e,rfl,an⟩:=eo hM;have h:=C;refine T ?_;intro aB ab h ad af ay ao;exact rt
 obtain ⟨rfl,u,rfl,hM⟩:=hM;cases C;exact And.intro trivial hM
instance k_325:Ct prog 325:=⟨by kernel_rfl,@CG⟩
theorem E8 {w0 N i r} (h:qJ N i=some r) {j W l} (Y:W=i.PB.PA.length) (K:rb w0 j l i.PB.PA) {k X m} (Z:X=i.own.length) (L:rb w0 k m i.own) :
    iq prog 199 #[.agg #[vS j W l,vS k X m,vI i.kh.bh,vI i.kh.ib,vI i.kh.ij]] w0 (fun v w=>∃ p B, ∃ q C, ∃ u G, ∃ x H, ∃ z I, ∃ A J,v=.tuple #[.agg #[vS p r.1.PB.PA.length B,vS q r.1.own.length C,vS u r.1.PC.length G,vS x r.1.py.ag.length H,vI r.1.py.gc.PD,vI r.1.py.gc.PL,vI r.1.py.gc.PF,vS z r.1.py.gc.hZ.length I,vS A r.1.ia.length J,vI r.1.PJ,vI r.1.PI,vI r.1.hY.bh,vI r.1.hY.ib,vI r.1.hY.ij,vI r.1.ik,vI r.1.PH],.bool r.2]∧St w0 [] w [sl p B r.1.PB.PA,sl q C r.1.own,sl u G r.1.PC,sl x H r.1.py.ag,sl z I r.1.py.gc.hZ,sl A J r.1.ia]):=by
 subst Y Z;unfold qJ at h;refine iq.fn func199 fun e=>?_;have aX:=St.start w0;refine yk aX fun bs bu aY=>?_;refine LW.al aY fun bt bv aZ=>?_;refine gb h fun a4 a3 h=>?_;refine LW.cl (zB a3) ?_;rintro _ bw ⟨aO,aV,rfl,hs⟩;have U:=aZ.add hs;refine gs ?_;obtain ⟨a5,a2,aW⟩:=ob h;refine CW.jn [1,2,4] [0,1,2] [(28,.bool a5)] U (h1:=?_) (h2:=?_)
 · have h:=a2;refine gb h fun bo aB h=>?_;refine LW.c0 (zH aB rfl (U.rB K)) U fun ba V=>?_;refine gB h ?_ ?_<;>intro _ h
   · refine go ?_;cases oi h;exact V.po [0,1,2]
   refine gb h fun bp aC h=>?_;refine go ?_;refine LW.c0 (Cp aC rfl (V.rB L)) V fun bb am=>?_;refine gB h ?_ ?_<;>intro _ h
   · refine go ?_;cases oi h;exact am.po [0,1,2]
   refine go ?_;cases oi h;exact am.po [0,1,2]
 intro e bc an;have h:=aW;refine gc h ?_ ?_<;>intro _ h
 · refine jL [] #[vS none 0 0,vS none 0 0,vS none 0 0,vS none 0 0,vI 0,vI 0,vI 0,vS none 0 0,vS none 0 0,vI 0,vI 0,vI 0,vI 0,vI 0,vI 0,vI 0] ?_;refine LW.st an 1 fun be a0=>?_;refine go ?_;cases h;have a1:=a0.nil (α:=Int);have aq:=a1.nil (α:=Int);have ar:=aq.nil (α:=im);have au:=ar.nil (α:=gE);have av:=au.nil (α:=Int);have O:=av.nil (α:=iZ);exact Rc (iD.b O 7 rfl lV rfl rfl) tt ⟨none,0,none,0,none,0,none,0,none,0,none,0,rfl,O.pk [5,4,3,2,1,0]⟩
 refine gb h fun bq aD h=>?_;refine LW.cl (yM aD) ?_;rintro _ bf ⟨a7,a8,rfl,hs⟩;have aw:=an.add hs;refine LW.bi [-1, -1] aw ?_;intro aa af M n hf;refine LW.bd [(1,vI 4),(4,vI 1000000),(10,vS aa (([-1, -1]:List Int).length) af)] #[vI 0,vI 4,vI 0,vI 0,vI 1000000,vI 0,vI 0,vI 0,vI 0,.bool false,vS aa (([-1, -1]:List Int).length) af,vS none 0 0,vS none 0 0] ?_;have ⟨ap,aE,h⟩:=ob h;refine LW.cl (wm aE rfl (n.rI 1 rfl) rfl (n.rI 0 rfl) rfl (show iR (α:=Int) (jo M []) M none 0 [] from iR.nil _ _ _ _ (Nat.zero_le _)) rfl (show iR (α:=je) (jo M []) M none 0 [] from iR.nil _ _ _ _ (Nat.zero_le _))) ?_;rintro _ bg ⟨ab,ah,rfl,hs⟩;have ax:=n.add hs;refine gb h fun g aF h=>?_;refine LW.cl (B1 aF) ?_;rintro _ bj ⟨ac,ai,rfl,hs⟩;have o:=ax.add hs;refine LW.bd [(0,vS ab ap.1.length ah),(1,.agg #[vI g.PD,vI g.PL,vI g.PF,vS ac g.hZ.length ai])] #[vS ab ap.1.length ah,vI g.PD,vI g.PL,vI g.PF,vS ac g.hZ.length ai] ?_;refine gb h fun d aG h=>?_;refine LW.cl (xE aG rfl (o.rI 1 rfl) rfl (o.rI 0 rfl)) ?_;rintro _ bk ⟨ad,aj,ae,ak,rfl,hs⟩;have ay:=o.add hs;refine LW.al ay fun a9 bl az=>?_;refine LW.st az 0 fun ao f=>?_;refine jL [(0,.agg #[vS j i.PB.PA.length l]),(1,vS k i.own.length m),(2,vS aO a4.1.length aV),(3,.agg #[vS ad d.ag.length aj,vI d.gc.PD,vI d.gc.PL,vI d.gc.PF,vS ae d.gc.hZ.length ak])] #[vS j i.PB.PA.length l,vS k i.own.length m,vS aO a4.1.length aV,vS ad d.ag.length aj,vI d.gc.PD,vI d.gc.PL,vI d.gc.PF,vS ae d.gc.hZ.length ak,vS none 0 0,vI 0,vI 0,vI 0,vI 0,vI 0,vI 0,vI 0] ?_;have ⟨br,aH,h⟩:=ob h;refine LW.cl (zQ aH rfl (f.rB K) rfl (f.rB L) rfl (f.rI 7 rfl) rfl (f.rI 1 rfl) rfl (f.rI 2 rfl) rfl (show iR (α:=iZ) (jo ao []) ao none 0 [] from iR.nil _ _ _ _ (Nat.zero_le _))) ?_
 rintro _ bm ⟨aI,aP,aJ,aQ,aK,aR,aL,aS,aM,aT,aN,aU,rfl,hs⟩;have aA:=f.add hs;refine LW.st aA 14 fun bn R=>?_;refine go ?_;cases h;exact Rc (iD.b R 14 rfl lV rfl rfl) tt ⟨aI,aP,aJ,aQ,aK,aR,aL,aS,aM,aT,aN,aU,rfl,R.pk [0,1,2,3,4,5]⟩
instance k_199:Ct prog 199:=⟨by kernel_rfl,@E8⟩
end Go.Kx
