import Derived.Test.YtlcgibcdiikheaaGreatWa41
import Derived.Test.YtlcgibcdiikheaaGreatWa42
import Derived.Test.YtlcgibcdiikheaaGreatWa43
namespace Go.Kx
open Go Go.RowKit Go.Proofs
open Tryz
set_option maxRecDepth 10000
set_option maxHeartbeats 8000000
set_option linter.unusedVariables false
set_option linter.unusedSimpArgs false
theorem Iu {w0 N k ar r} (h:u6 N k ar=some r) {m R n} (Y:R=k.ag.length) (C:rb w0 m n k.ag) {G U p} (Z:U=k.gc.gQ.length) (ab:rb w0 G p k.gc.gQ) :
    g8 prog 218 #[.agg #[vS m R n,vI k.gc.QS,vI k.gc.Q0,vI k.gc.QT,vS G U p],vI ar] w0 (fun v w=>∃ x A, ∃ z B,v=.tuple #[.agg #[vS x r.1.ag.length A,vI r.1.gc.QS,vI r.1.gc.Q0,vI r.1.gc.QT,vS z r.1.gc.gQ.length B],vI r.2]∧St w0 [] w [sl x A r.1.ag,sl z B r.1.gc.gQ]):=by
 subst Y Z;unfold u6 at h;refine g8.fn func218 fun e=>?_;have cc:=St.start w0;refine T ?_;intro ay cU ce az cV cf bX cm h cR a2 cS cT cq cg af cr ci ct cj;refine T ?_;intro cI bD h cu aB;refine gc h ?_ ?_<;>intro _ h
 · refine T ?_;intro cv ck;exact rt
 refine kS [1,2,4,6,18] fun e=>?_;refine gc h ?_ ?_<;>intro _ h
 · refine T ?_;intro cJ bE h bZ b7 b0 b8 cw cl cx a7;exact rt
 refine gc h ?_ ?_<;>intro _ h
 · refine T ?_;intro cy a9 cz ba cA bb;exact rt
 refine gb h fun cK ap h=>?_;obtain ⟨av,aD,a3,rfl,bm,bq,bu,rfl,bo⟩:=ab.idx ap;refine go ?_;refine T ?_;have ⟨cL,K,h⟩:=ob h;obtain ⟨X,au,ax,am,an,bc⟩:=aB.wy (α:=Int) 2 rfl K;refine LW.u (iM.sub (α:=Int) (l:=bX.gc.gQ) underlying37 Ee rfl xA (xy rfl) K X am an) rfl ?_;refine T ?_;intro cB ai;obtain ⟨aC,ao,aA⟩:=ob h;refine CW.jn [1,2,4,6,8] [0,1,2,3,4] [(67,.bool aC)] ai (h1:=?_) (h2:=?_)
 · have h:=ao;refine gB h ?_ ?_<;>intro _ h
   · refine gb h fun cM aq h=>?_;obtain ⟨b4,cn,a4,rfl,bn,br,bv,⟨b1,b9,b2,ca,b3,cb,rfl,bA,bB,bC⟩,bp⟩:=C.idx aq;refine go ?_;refine T ?_;intro cN bF h cC bd;exact rt
   exact rt
 intro e cD H;have h:=aA;refine gc h ?_ ?_<;>intro _ h
 · refine T ?_;intro cE be;exact rt
 refine gb h fun cO L h=>?_;obtain ⟨aw,aE,hae,bs,bw⟩:=H.iu (α:=gE) (i:=1) rfl L;subst hae;refine go ?_;refine gb h fun cP M h=>?_;refine LW.se 9 H 1 L M (hM:=(kR (fun w cs F hF=>by obtain ⟨bK,bN,bL,bO,bM,bP,rfl,hH⟩:=hF;exact ⟨bK,bN,bL,bO,bM,bP,rfl,hH⟩))) fun cF bf=>?_;refine T ?_;intro V bG h ad ae cG I;refine go ?_;rw [iv (oi M)] at I;obtain ⟨bJ,aa,ah⟩:=ob h;refine CW.ie aa 1 (fun b e wb=>∃ (d:Ad) (g:Nat) (f:Ad) (j:Nat),En e [(1,vI ar),(2,.pointer (some ⟨ay,0,none⟩)),(4,.pointer (some ⟨az,0,none⟩)),(6,.pointer (some ⟨af,0,none⟩)),(77,vS ad V.length ae),(78,vI (V.length:Int)),(79,vI b.1)]∧St w0 [] wb [sl ad ae V,bx af 45 [vS d b.2.1.length g,vI b.2.2.1,vI b.2.2.2.1,vI b.2.2.2.2.1,vS f b.2.2.2.2.2.length j],bx az 45 [vS none 0 0,vI 0,vI 0,vI 0,vS none 0 0],bx ay 45 (qH m n (some ⟨av,aD,none⟩) p k),sl d g b.2.1,sl f j b.2.2.2.2.2]) ?_ ⟨(some ⟨aw,aE,none⟩),a2,au,ax,I.po [0,1,4,5,2,3]⟩ ?_
 · intro b e cH o hM h;obtain ⟨d,g,f,j,hE,J⟩:=hM;obtain ⟨e,rfl⟩:=hE.out;refine kS [1,2,4,6,77,78,79,80] fun e=>?_;refine gc h ?_ ?_<;>intro _ h
   · refine gb h fun cQ O h=>?_;obtain ⟨b5,co,hae,bt,bz⟩:=J.iu (α:=Int) (i:=0) rfl O;subst hae;refine go ?_;obtain ⟨bY,q,bg⟩:=J.freeze (α:=Int) 0 rfl;obtain ⟨b6,cp,a5,hae,aG,_,_,W,aI⟩:=q.j5.idx O;cases hae;obtain rfl:=W;refine T ?_;have ⟨bU,ac,h⟩:=ob h;obtain ⟨aW,bI,aF,rfl,aH,aK,aL,⟨aR,aX,aS,aY,aT,aZ,rfl,aM,aN,aO⟩,aJ⟩:=C.idx ac;refine go ?_;refine T ?_;intro bV aP h bQ aj;refine CW.fl [1,2,4,6,10,77,78,79,90] fun e=>?_;refine gc h ?_ ?_<;>intro _ h
     · refine T ?_;intro bW aQ h aU a0 aV a1 bR ak;have bi:=ak.iJ (α:=Int) 3 rfl q;exact rt
     refine go ?_;have bj:=aj.iJ (α:=Int) 0 rfl q;exact rt
   exact rt
 rintro e bS ⟨d,g,f,j,hE,bk⟩;obtain ⟨e,rfl⟩:=hE.out;have h:=ah;refine T ?_;intro bT bl;exact rt
instance k_218:Ct prog 218:=⟨by kernel_rfl,@Iu⟩
theorem EV {w0 N X r} (h:qc N X=some r) {H O I} (V:O=X.length) (W:rb w0 H I X) :
    g8 prog 105 #[vS H O I] w0 (fun v w=>∃ J K,v=.agg #[vI r.Q1,vS J r.parts.length K]∧St w0 [] w [sl J K r.parts]):=by
 subst V;unfold qc at h;refine g8.fn func105 fun e=>?_;have aI:=St.start w0;refine T ?_;intro R a1 aJ;refine LW.bd [] #[vI 0,vS none 0 0] ?_;refine T ?_;intro U a2 aK a3 aL a6 aN h a4 ah;refine gc h ?_ ?_<;>intro _ h
 · refine T ?_;intro a5 ai;cases h;have Z:=ai.nil (α:=cd);exact And.intro trivial ⟨_,lk.one (iq.b Z 2 rfl sS rfl rfl),none,0,rfl,Z.pk [0]⟩
 refine go ?_;have aj:=ah.nil (α:=cd);obtain ⟨aP,ac,af⟩:=ob h;refine CW.ie ac 0 (fun j e wb=>∃ (f:Ad) (g:Nat),En e [(0,vS H X.length I),(2,.pointer (some ⟨R,0,none⟩)),(3,.pointer (some ⟨U,0,none⟩)),(4,vI j.1)]∧St w0 [] wb [bx U 26 [vI 0,vS f j.2.length g],bx R 26 [vI 0,vS none 0 0],sl f g j.2]) ?_ ⟨none,0,aj.po [1,2,0]⟩ ?_
 · intro j e aR o hM h;obtain ⟨f,g,hE,aM⟩:=hM;obtain ⟨e,rfl⟩:=hE.out;refine gc h ?_ ?_<;>intro _ h
   · refine gb h fun aZ ad h=>?_;obtain ⟨aE,aO,ak,rfl,au,aw,ax,⟨aB,aF,aC,aG,rfl,ay,az⟩,av⟩:=W.idx ad;refine go ?_;refine T ?_;intro d aA h k u l x m z n A p B q C aS am Y aT an aU aa;have ab:=aa.pk (M:=[sl k u d.1.QQ.so,sl l x d.1.own,sl m z d.1.QR,sl n A d.1.heap.ag,sl p B d.1.heap.gc.gQ,sl q C d.1.gR]++[bx Y 50 (qP k u l x m z n A p B q C d.1),bx U 26 [vI 0,vS f j.2.length g],bx R 26 [vI 0,vS none 0 0],sl f g j.2]) [1,2,3,4,5,6,0,7,8,9];have ⟨a0,ae,h⟩:=ob h;refine LW.kX (M:=[sl k u d.1.QQ.so,sl l x d.1.own,sl m z d.1.QR,sl n A d.1.heap.ag,sl p B d.1.heap.gc.gQ,sl q C d.1.gR]) (L:=[bx Y 50 (qP k u l x m z n A p B q C d.1),bx U 26 [vI 0,vS f j.2.length g],bx R 26 [vI 0,vS none 0 0],sl f g j.2]) (vs:=#[vS k d.1.QQ.so.length u,vS l d.1.own.length x,vS m d.1.QR.length z,vS n d.1.heap.ag.length A,vI d.1.heap.gc.QS,vI d.1.heap.gc.Q0,vI d.1.heap.gc.QT,vS p d.1.heap.gc.gQ.length B,vS q d.1.gR.length C,vI d.1.QZ,vI d.1.QY,vI d.1.gP.bh,vI d.1.gP.gS,vI d.1.gP.gW,vI d.1.hY,vI d.1.QX]) (i:=3) Fj rfl (by kernel_rfl) rfl rfl ae ab rfl (fun w G hG=>⟨k,u,l,x,m,z,n,A,p,B,q,C,rfl,hG⟩) rfl rfl ?_;intro aQ aD aH aV ao hf;refine T ?_;intro aW ap;exact rt
   exact rt
 rintro e aX ⟨f,g,hE,aq⟩;obtain ⟨e,rfl⟩:=hE.out;have h:=af;refine T ?_;intro aY ar;exact rt
instance k_105:Ct prog 105:=⟨by kernel_rfl,@EV⟩
theorem Fy {w0} {F:List Nat} {N q o r} (h:sm N q o=some r) {l:Nat} {g j} (aE:iV (ki w0 F) w0 g j q.b) {B M k} (X:M=o.parts.length) (x:iV (ki w0 F) w0 B k o.parts) (hS:St w0 F w0 [bx l 177 [vS g q.b.length j,vI q.i,vI q.h]]) :
    g8 prog 303 #[.pointer (some ⟨l,0,none⟩),.agg #[vI o.Q1,vS B M k]] w0 (fun v w=>v=.agg #[vI r.1.py,vI r.1.Q5,vI r.1.lj,vI r.1.call.py,vI r.1.call.a,vI r.1.call.b,vI r.1.call.c,vI r.1.call.d,vI r.1.call.e]∧St w0 F w [bx l 177 [vS g q.b.length j,vI r.2.i,vI r.2.h]]):=by
 subst X;unfold sm at h;refine g8.fn func303 fun e=>?_;refine T ?_;intro A c6 cG u c7 cH z cN h c8 cI c9 cO h cQ cJ;refine kS [0,3,4,5,6,18] fun e=>?_;refine gc h ?_ ?_<;>intro _ h
 · refine jX [(0,vI 1)] #[vI 1,vI 0,vI 0,vI 0,vI 0,vI 0,vI 0,vI 0,vI 0] ?_;refine T ?_;intro cR aa;replace h:=oi h;subst h;exact And.intro trivial ⟨_,lk.one (iq.b aa 1 rfl IK rfl rfl),rfl,aa.pk [0]⟩
 refine gs ?_;obtain ⟨J,aj,ap⟩:=ob h;refine CW.cut (fun e wb=>En e [(0,.pointer (some ⟨l,0,none⟩)),(3,.pointer (some ⟨A,0,none⟩)),(4,.pointer (some ⟨u,0,none⟩)),(5,vI z.1),(22,.bool J.1)]∧St w0 F wb [bx l 177 [vS g q.b.length j,vI J.2.1,vI J.2.2],bx u 62 [vI 0,vI 0,vI 0,vI 0,vI 0,vI 0,vI 0,vI 0,vI 0],bx A 26 [vI o.Q1,vS B o.parts.length k]]) ?_ ?_
 · have h:=aj;refine gB h ?_ ?_<;>intro _ h
   · refine T ?_;intro c2 bS h cS cK;exact rt
   exact rt
 rintro e cT ⟨hE,cL⟩;obtain ⟨e,rfl⟩:=hE.out;have h:=ap;refine gc h ?_ ?_<;>intro _ h
 · refine T ?_;intro ac bT h cU cM;refine LW.bd [(0,vI 3),(1,vI z.1),(2,vI ac.1)] #[vI 3,vI z.1,vI ac.1,vI 0,vI 0,vI 0,vI 0,vI 0,vI 0] ?_;refine T ?_;intro cV ab;replace h:=oi h;subst h;exact And.intro trivial ⟨_,lk.one (iq.b ab 1 rfl IK rfl rfl),rfl,ab.pk [0]⟩
 refine gb h fun c3 an h=>?_;obtain ⟨G,O,be,rfl,bz,bD,bF,⟨ck,cw,cl,cx,cm,cy,cn,cz,co,cA,cp,cB,rfl,bI,bJ,bK,bL,bM,bN⟩,bB⟩:=x.idx an;refine go ?_;refine T ?_;intro f bU h cW bg n cX bi cY bj ad bV h cZ bk;obtain ⟨K,ak,aq⟩:=ob h;refine CW.cut (fun e wb=>En e [(0,.pointer (some ⟨l,0,none⟩)),(3,.pointer (some ⟨A,0,none⟩)),(4,.pointer (some ⟨u,0,none⟩)),(5,vI z.1),(7,.pointer (some ⟨n,0,none⟩)),(8,vI ad.1),(52,.bool K.1)]∧St w0 F wb [bx l 177 [vS g q.b.length j,vI K.2.1,vI K.2.2],bx n 28 (qL f.1),bx u 62 [vI 0,vI 0,vI 0,vI 0,vI 0,vI 0,vI 0,vI 0,vI 0],bx A 26 [vI o.Q1,vS (some ⟨G,O,none⟩) o.parts.length k]]) ?_ ?_
 · have h:=ak;refine gB h ?_ ?_<;>intro _ h
   · refine T ?_;intro c4 bW h c0 bl;exact rt
   exact rt
 rintro e c1 ⟨hE,bm⟩;obtain ⟨e,rfl⟩:=hE.out;have h:=aq;refine gs ?_;obtain ⟨L,am,ar⟩:=ob h;refine CW.cut (fun e wb=>En e [(0,.pointer (some ⟨l,0,none⟩)),(3,.pointer (some ⟨A,0,none⟩)),(4,.pointer (some ⟨u,0,none⟩)),(5,vI z.1),(7,.pointer (some ⟨n,0,none⟩)),(8,vI ad.1)]∧St w0 F wb [bx l 177 [vS g q.b.length j,vI L.1,vI L.2.1],bx n 28 [vI f.1.py,vI L.2.2,vI f.1.b,vI f.1.c,vI f.1.d,vI f.1.e],bx u 62 [vI 0,vI 0,vI 0,vI 0,vI 0,vI 0,vI 0,vI 0,vI 0],bx A 26 [vI o.Q1,vS (some ⟨G,O,none⟩) o.parts.length k]]) ?_ ?_
 · have h:=am;refine CW.fl [0,3,4,5,7,8,52] fun e=>?_;refine gc h ?_ ?_<;>intro _ h
   · refine gb h fun c5 ao h=>?_;obtain ⟨cv,cP,bf,hae,bA,bE,bG,ai,bC⟩:=x.idx ao;cases hae;obtain ⟨cq,cC,cr,cD,cs,cE,ct,cF,cu,a4,aT,a5,rfl,bO,bP,bQ,bR,aF,aG⟩:=ai;refine go ?_;refine T ?_;intro cb aN h b0 bn b1 bo;exact rt
   exact rt
 rintro e b2 ⟨hE,bp⟩;obtain ⟨e,rfl⟩:=hE.out;have h:=ar;refine gs ?_;refine CW.region ?_;refine gs ?_;obtain ⟨m,V,ae⟩:=ob h;refine CW.cut (fun e wb=>En e [(0,.pointer (some ⟨l,0,none⟩)),(3,.pointer (some ⟨A,0,none⟩)),(4,.pointer (some ⟨u,0,none⟩)),(5,vI z.1),(7,.pointer (some ⟨n,0,none⟩))]∧St w0 F wb [bx l 177 [vS g q.b.length j,vI m.1,vI m.2.1],bx n 28 [vI f.1.py,vI m.2.2,vI f.1.b,vI f.1.c,vI f.1.d,vI f.1.e],bx u 62 [vI 0,vI 0,vI 0,vI 0,vI 0,vI 0,vI 0,vI 0,vI 0],bx A 26 [vI o.Q1,vS (some ⟨G,O,none⟩) o.parts.length k]]) ?_ ?_
 · have h:=V;refine CW.fl [0,3,4,5,7,8,64] fun e=>?_;refine gc h ?_ ?_<;>intro _ h
   · refine gb h fun cc Z h=>?_;obtain ⟨a1,bX,au,hae,aw,aA,aC,R,ay⟩:=x.idx Z;cases hae;obtain ⟨aU,a6,aV,a7,aW,a8,aX,a9,aY,ba,aZ,bb,rfl,aH,aI,aJ,aK,aL,aM⟩:=R;refine go ?_;refine T ?_;intro ce aO h b3 bq b4 br;exact rt
   exact rt
 rintro e b5 ⟨hE,bs⟩;obtain ⟨e,rfl⟩:=hE.out;have h:=ae;refine T ?_;intro cf aP h b6 ah;obtain ⟨p,W,af⟩:=ob h;refine CW.cut (fun e wb=>En e [(0,.pointer (some ⟨l,0,none⟩)),(4,.pointer (some ⟨u,0,none⟩)),(5,vI z.1),(7,.pointer (some ⟨n,0,none⟩)),(9,vI p.1)]∧St w0 F wb [bx l 177 [vS g q.b.length j,vI p.2.1,vI p.2.2],bx n 28 [vI f.1.py,vI m.2.2,vI f.1.b,vI f.1.c,vI f.1.d,vI f.1.e],bx u 62 [vI 0,vI 0,vI 0,vI 0,vI 0,vI 0,vI 0,vI 0,vI 0]]) ?_ ?_
 · have h:=W;refine CW.fl [0,3,4,5,7,9,75] fun e=>?_;refine gc h ?_ ?_<;>intro _ h
   · refine mo ?_;have bt:=ah.drew;refine go ?_;refine T ?_;intro cg aQ h a0 bc b7 bu;refine gc h ?_ ?_<;>intro _ h
     · refine T ?_;intro ci aR h b8 H;have ⟨cj,C,h⟩:=ob h;obtain ⟨a2,bY,hae,aB,aD⟩:=H.iu (α:=Int) (i:=1) rfl C;subst hae;refine go ?_;obtain ⟨aS,Y,bv⟩:=H.freeze (α:=Int) 1 rfl;obtain ⟨a3,bZ,av,hae,ax,_,_,U,az⟩:=Y.j5.idx C;cases hae;obtain rfl:=U;refine T ?_;exact rt
     exact rt
   exact rt
 rintro e b9 ⟨hE,bw⟩;obtain ⟨e,rfl⟩:=hE.out;have h:=af;refine jX [(0,vI 2),(1,vI z.1),(2,vI p.1),(3,.agg #[vI f.1.py,vI m.2.2,vI f.1.b,vI f.1.c,vI f.1.d,vI f.1.e])] #[vI 2,vI z.1,vI p.1,vI f.1.py,vI m.2.2,vI f.1.b,vI f.1.c,vI f.1.d,vI f.1.e] ?_;refine T ?_;intro ca I;replace h:=oi h;subst h;exact And.intro trivial ⟨_,lk.one (iq.b I 2 rfl IK rfl rfl),rfl,I.pk [0]⟩
instance k_303:Ct prog 303:=⟨by kernel_rfl,@Fy⟩
end Go.Kx
