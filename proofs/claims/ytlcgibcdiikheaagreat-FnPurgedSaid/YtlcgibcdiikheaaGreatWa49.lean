import Derived.Test.YtlcgibcdiikheaaGreatWa45
import Derived.Test.YtlcgibcdiikheaaGreatWa46
namespace Go.Kx
open Go Go.RowKit Go.Proofs
open Tryz
set_option maxRecDepth 10000
set_option maxHeartbeats 8000000
set_option linter.unusedVariables false
set_option linter.unusedSimpArgs false
theorem AI {w0} {F:List Nat} {N f g r} (h:pW N f g=some r) {A U J} (aa:U=f.HB.Hz.length) {B V K} (ab:V=f.own.length) {C W L} (ac:W=f.HC.length) {G X M} (ad:X=f.py.ag.length) {H Y O} (ae:Y=f.py.gc.gQ.length) {I Z R} (af:Z=f.gR.length) (hS:St w0 F w0 [sl A J f.HB.Hz,sl B K f.own,sl C L f.HC,sl G M f.py.ag,sl H O f.py.gc.gQ,sl I R f.gR]) :
    gZ prog 175 #[.agg #[vS A U J,vS B V K,vS C W L,vS G X M,vI f.py.gc.HD,vI f.py.gc.HL,vI f.py.gc.HF,vS H Y O,vS I Z R,vI f.HH,vI f.HJ,vI f.gP.gE,vI f.gP.gV,vI f.gP.hY,vI f.g8,vI f.HG],.agg #[vI g.HA,vI g.a,vI g.b,vI g.c,vI g.d,vI g.e]] w0 (fun v w=>∃ i o, ∃ j p, ∃ k q, ∃ l u, ∃ m x, ∃ n z,v=.tuple #[.agg #[vS i r.1.HB.Hz.length o,vS j r.1.own.length p,vS k r.1.HC.length q,vS l r.1.py.ag.length u,vI r.1.py.gc.HD,vI r.1.py.gc.HL,vI r.1.py.gc.HF,vS m r.1.py.gc.gQ.length x,vS n r.1.gR.length z,vI r.1.HH,vI r.1.HJ,vI r.1.gP.gE,vI r.1.gP.gV,vI r.1.gP.hY,vI r.1.g8,vI r.1.HG],.agg #[vI r.2.code,vI r.2.HU]]∧St w0 F w [sl i o r.1.HB.Hz,sl j p r.1.own,sl k q r.1.HC,sl l u r.1.py.ag,sl m x r.1.py.gc.gQ,sl n z r.1.gR]):=by
 subst aa ab ac ad ae af;unfold pW at h;refine gZ.fn func175 fun e=>?_;refine T ?_;intro b0 b4 a9 b1 b5 ba b2 b6 bb b3 b7 ah;refine gc h ?_ ?_<;>intro _ h
 · refine gs ?_;obtain ⟨ap,ak,an⟩:=ob h;refine CW.jn [2,3,4,5] [0,1,2,3,4,5,6,7,8,9] [(31,.bool ap)] ah (h1:=?_) (h2:=?_)
   · have h:=ak;refine T ?_;intro bR aT h bj bc;refine bH h ?_ ?_<;>intro _ h
     · exact rt
     refine jj [(0,vI g.b),(1,vI g.c),(2,vI g.d)] #[vI g.b,vI g.c,vI g.d] ?_;refine T ?_;intro bS aU h bk be;exact rt
   intro e bl bf;have h:=an;refine gc h ?_ ?_<;>intro _ h
   · refine jj [(0,vI 2)] #[vI 2,vI 0] ?_;refine T ?_;intro bm bg bn bi;exact rt
   refine jj [(0,vI g.b),(1,vI g.c),(2,vI g.d)] #[vI g.b,vI g.c,vI g.d] ?_;refine T ?_;intro ai aV h a3 a6 bo ar;refine CW.fl [2,4,5,6,7,51] fun e=>?_;refine gc h ?_ ?_<;>intro _ h
   · refine jj [(0,vI 6)] #[vI 6,vI 0] ?_;refine T ?_;intro bp au bq av;exact rt
   refine T ?_;intro br aw;refine LW.bd [(1,vI ai.2.1)] #[vI 0,vI ai.2.1] ?_;refine T ?_;intro bs ax bt ay;exact rt
 refine gc h ?_ ?_<;>intro _ h
 · refine gs ?_;obtain ⟨aq,am,ao⟩:=ob h;refine CW.jn [2,3,4,5] [0,1,2,3,4,5,6,7,8,9] [(82,.bool aq)] ah (h1:=?_) (h2:=?_)
   · have h:=am;refine T ?_;intro bT aW h bu az;refine bH h ?_ ?_<;>intro _ h
     · exact rt
     refine T ?_;intro bU aX h bv aA;refine bH h ?_ ?_<;>intro _ h
     · exact rt
     refine go ?_;refine T ?_;intro bV aY h bw aB;refine bH h ?_ ?_<;>intro _ h
     · exact rt
     refine T ?_;intro bW aZ h bz aC;exact rt
   intro e bA aj;have h:=ao;refine gc h ?_ ?_<;>intro _ h
   · refine jj [(0,vI 2)] #[vI 2,vI 0] ?_;refine T ?_;intro bB aD bC aE;exact rt
   refine kG ?_;have aF:=aj.drew;refine T ?_;intro bX a0 h bD aG bY a1 h a4 a7 bE aH;refine gc h ?_ ?_<;>intro _ h
   · refine jj [(0,vI 6)] #[vI 6,vI 0] ?_;refine T ?_;intro bF aI bG aJ;exact rt
   refine T ?_;intro bI aK;refine LW.bd [] #[vI 0,vI 0] ?_;refine T ?_;intro bJ aL bK aM;exact rt
 refine T ?_;intro bZ a2 h a5 a8 bL aN;refine CW.fl [2,4,5,11,117] fun e=>?_;refine gc h ?_ ?_<;>intro _ h
 · refine jj [(0,vI 2)] #[vI 2,vI 0] ?_;refine T ?_;intro bM aO bN aP;exact rt
 refine T ?_;intro bO aQ;refine LW.bd [] #[vI 0,vI 0] ?_;refine T ?_;intro bP aR bQ aS;exact rt
instance k_175:Ct prog 175:=⟨by kernel_rfl,@AI⟩
theorem yD {w0 N X r} (h:od N X=some r) {H O I} (V:O=X.length) (W:rb w0 H I X) :
    gZ prog 105 #[vS H O I] w0 (fun v w=>∃ J K,v=.agg #[vI r.HQ,vS J r.parts.length K]∧St w0 [] w [sl J K r.parts]):=by
 subst V;unfold od at h;refine gZ.fn func105 fun e=>?_;have aI:=St.start w0;refine T ?_;intro R a1 aJ;refine LW.bd [] #[vI 0,vS none 0 0] ?_;refine T ?_;intro U a2 aK a3 aL a6 aN h a4 ah;refine gc h ?_ ?_<;>intro _ h
 · refine T ?_;intro a5 ai;cases h;have Z:=ai.nil (α:=bh);exact And.intro trivial ⟨_,jM.one (hP.b Z 2 rfl pc rfl rfl),none,0,rfl,Z.pk [0]⟩
 refine go ?_;have aj:=ah.nil (α:=bh);obtain ⟨aP,ac,af⟩:=ob h;refine CW.ie ac 0 (fun j e wb=>∃ (f:Ad) (g:Nat),En e [(0,vS H X.length I),(2,.pointer (some ⟨R,0,none⟩)),(3,.pointer (some ⟨U,0,none⟩)),(4,vI j.1)]∧St w0 [] wb [bx U 26 [vI 0,vS f j.2.length g],bx R 26 [vI 0,vS none 0 0],sl f g j.2]) ?_ ⟨none,0,aj.po [1,2,0]⟩ ?_
 · intro j e aR o hM h;obtain ⟨f,g,hE,aM⟩:=hM;obtain ⟨e,rfl⟩:=hE.out;refine gc h ?_ ?_<;>intro _ h
   · refine gb h fun aZ ad h=>?_;obtain ⟨aE,aO,ak,rfl,au,aw,ax,⟨aB,aF,aC,aG,rfl,ay,az⟩,av⟩:=W.idx ad;refine go ?_;refine T ?_;intro d aA h k u l x m z n A p B q C aS am Y aT an aU aa;have ab:=aa.pk (M:=[sl k u d.1.HB.Hz,sl l x d.1.own,sl m z d.1.HC,sl n A d.1.py.ag,sl p B d.1.py.gc.gQ,sl q C d.1.gR]++[bx Y 50 (qP k u l x m z n A p B q C d.1),bx U 26 [vI 0,vS f j.2.length g],bx R 26 [vI 0,vS none 0 0],sl f g j.2]) [1,2,3,4,5,6,0,7,8,9];have ⟨a0,ae,h⟩:=ob h;refine LW.kr (M:=[sl k u d.1.HB.Hz,sl l x d.1.own,sl m z d.1.HC,sl n A d.1.py.ag,sl p B d.1.py.gc.gQ,sl q C d.1.gR]) (L:=[bx Y 50 (qP k u l x m z n A p B q C d.1),bx U 26 [vI 0,vS f j.2.length g],bx R 26 [vI 0,vS none 0 0],sl f g j.2]) (vs:=#[vS k d.1.HB.Hz.length u,vS l d.1.own.length x,vS m d.1.HC.length z,vS n d.1.py.ag.length A,vI d.1.py.gc.HD,vI d.1.py.gc.HL,vI d.1.py.gc.HF,vS p d.1.py.gc.gQ.length B,vS q d.1.gR.length C,vI d.1.HH,vI d.1.HJ,vI d.1.gP.gE,vI d.1.gP.gV,vI d.1.gP.hY,vI d.1.g8,vI d.1.HG]) (i:=3) CN rfl (by kernel_rfl) rfl rfl ae ab rfl (fun w G hG=>⟨k,u,l,x,m,z,n,A,p,B,q,C,rfl,hG⟩) rfl rfl ?_;intro aQ aD aH aV ao hf;refine T ?_;intro aW ap;exact rt
   exact rt
 rintro e aX ⟨f,g,hE,aq⟩;obtain ⟨e,rfl⟩:=hE.out;have h:=af;refine T ?_;intro aY ar;exact rt
instance k_105:Ct prog 105:=⟨by kernel_rfl,@yD⟩
theorem xY {w0} {F:List Nat} {N q o r} (h:nM N q o=some r) {l:Nat} {g j} (aE:iy (ja w0 F) w0 g j q.b) {B M k} (X:M=o.parts.length) (x:iy (ja w0 F) w0 B k o.parts) (hS:St w0 F w0 [bx l 177 [vS g q.b.length j,vI q.i,vI q.h]]) :
    gZ prog 303 #[.pointer (some ⟨l,0,none⟩),.agg #[vI o.HQ,vS B M k]] w0 (fun v w=>v=.agg #[vI r.1.HA,vI r.1.HS,vI r.1.jC,vI r.1.call.HA,vI r.1.call.a,vI r.1.call.b,vI r.1.call.c,vI r.1.call.d,vI r.1.call.e]∧St w0 F w [bx l 177 [vS g q.b.length j,vI r.2.i,vI r.2.h]]):=by
 subst X;unfold nM at h;refine gZ.fn func303 fun e=>?_;refine T ?_;intro A c6 cG u c7 cH z cN h c8 cI c9 cO h cQ cJ;refine kI [0,3,4,5,6,18] fun e=>?_;refine gc h ?_ ?_<;>intro _ h
 · refine jj [(0,vI 1)] #[vI 1,vI 0,vI 0,vI 0,vI 0,vI 0,vI 0,vI 0,vI 0] ?_;refine T ?_;intro cR aa;replace h:=oi h;subst h;exact And.intro trivial ⟨_,jM.one (hP.b aa 1 rfl vf rfl rfl),rfl,aa.pk [0]⟩
 refine gs ?_;obtain ⟨J,aj,ap⟩:=ob h;refine CW.cut (fun e wb=>En e [(0,.pointer (some ⟨l,0,none⟩)),(3,.pointer (some ⟨A,0,none⟩)),(4,.pointer (some ⟨u,0,none⟩)),(5,vI z.1),(22,.bool J.1)]∧St w0 F wb [bx l 177 [vS g q.b.length j,vI J.2.1,vI J.2.2],bx u 62 [vI 0,vI 0,vI 0,vI 0,vI 0,vI 0,vI 0,vI 0,vI 0],bx A 26 [vI o.HQ,vS B o.parts.length k]]) ?_ ?_
 · have h:=aj;refine gB h ?_ ?_<;>intro _ h
   · refine T ?_;intro c2 bS h cS cK;exact rt
   exact rt
 rintro e cT ⟨hE,cL⟩;obtain ⟨e,rfl⟩:=hE.out;have h:=ap;refine gc h ?_ ?_<;>intro _ h
 · refine T ?_;intro ac bT h cU cM;refine LW.bd [(0,vI 3),(1,vI z.1),(2,vI ac.1)] #[vI 3,vI z.1,vI ac.1,vI 0,vI 0,vI 0,vI 0,vI 0,vI 0] ?_;refine T ?_;intro cV ab;replace h:=oi h;subst h;exact And.intro trivial ⟨_,jM.one (hP.b ab 1 rfl vf rfl rfl),rfl,ab.pk [0]⟩
 refine gb h fun c3 an h=>?_;obtain ⟨G,O,be,rfl,bz,bD,bF,⟨ck,cw,cl,cx,cm,cy,cn,cz,co,cA,cp,cB,rfl,bI,bJ,bK,bL,bM,bN⟩,bB⟩:=x.idx an;refine go ?_;refine T ?_;intro f bU h cW bg n cX bi cY bj ad bV h cZ bk;obtain ⟨K,ak,aq⟩:=ob h;refine CW.cut (fun e wb=>En e [(0,.pointer (some ⟨l,0,none⟩)),(3,.pointer (some ⟨A,0,none⟩)),(4,.pointer (some ⟨u,0,none⟩)),(5,vI z.1),(7,.pointer (some ⟨n,0,none⟩)),(8,vI ad.1),(52,.bool K.1)]∧St w0 F wb [bx l 177 [vS g q.b.length j,vI K.2.1,vI K.2.2],bx n 28 (qL f.1),bx u 62 [vI 0,vI 0,vI 0,vI 0,vI 0,vI 0,vI 0,vI 0,vI 0],bx A 26 [vI o.HQ,vS (some ⟨G,O,none⟩) o.parts.length k]]) ?_ ?_
 · have h:=ak;refine gB h ?_ ?_<;>intro _ h
   · refine T ?_;intro c4 bW h c0 bl;exact rt
   exact rt
 rintro e c1 ⟨hE,bm⟩;obtain ⟨e,rfl⟩:=hE.out;have h:=aq;refine gs ?_;obtain ⟨L,am,ar⟩:=ob h;refine CW.cut (fun e wb=>En e [(0,.pointer (some ⟨l,0,none⟩)),(3,.pointer (some ⟨A,0,none⟩)),(4,.pointer (some ⟨u,0,none⟩)),(5,vI z.1),(7,.pointer (some ⟨n,0,none⟩)),(8,vI ad.1)]∧St w0 F wb [bx l 177 [vS g q.b.length j,vI L.1,vI L.2.1],bx n 28 [vI f.1.HA,vI L.2.2,vI f.1.b,vI f.1.c,vI f.1.d,vI f.1.e],bx u 62 [vI 0,vI 0,vI 0,vI 0,vI 0,vI 0,vI 0,vI 0,vI 0],bx A 26 [vI o.HQ,vS (some ⟨G,O,none⟩) o.parts.length k]]) ?_ ?_
 · have h:=am;refine CW.fl [0,3,4,5,7,8,52] fun e=>?_;refine gc h ?_ ?_<;>intro _ h
   · refine gb h fun c5 ao h=>?_;obtain ⟨cv,cP,bf,hae,bA,bE,bG,ai,bC⟩:=x.idx ao;cases hae;obtain ⟨cq,cC,cr,cD,cs,cE,ct,cF,cu,a4,aT,a5,rfl,bO,bP,bQ,bR,aF,aG⟩:=ai;refine go ?_;refine T ?_;intro cb aN h b0 bn b1 bo;exact rt
   exact rt
 rintro e b2 ⟨hE,bp⟩;obtain ⟨e,rfl⟩:=hE.out;have h:=ar;refine gs ?_;refine CW.region ?_;refine gs ?_;obtain ⟨m,V,ae⟩:=ob h;refine CW.cut (fun e wb=>En e [(0,.pointer (some ⟨l,0,none⟩)),(3,.pointer (some ⟨A,0,none⟩)),(4,.pointer (some ⟨u,0,none⟩)),(5,vI z.1),(7,.pointer (some ⟨n,0,none⟩))]∧St w0 F wb [bx l 177 [vS g q.b.length j,vI m.1,vI m.2.1],bx n 28 [vI f.1.HA,vI m.2.2,vI f.1.b,vI f.1.c,vI f.1.d,vI f.1.e],bx u 62 [vI 0,vI 0,vI 0,vI 0,vI 0,vI 0,vI 0,vI 0,vI 0],bx A 26 [vI o.HQ,vS (some ⟨G,O,none⟩) o.parts.length k]]) ?_ ?_
 · have h:=V;refine CW.fl [0,3,4,5,7,8,64] fun e=>?_;refine gc h ?_ ?_<;>intro _ h
   · refine gb h fun cc Z h=>?_;obtain ⟨a1,bX,au,hae,aw,aA,aC,R,ay⟩:=x.idx Z;cases hae;obtain ⟨aU,a6,aV,a7,aW,a8,aX,a9,aY,ba,aZ,bb,rfl,aH,aI,aJ,aK,aL,aM⟩:=R;refine go ?_;refine T ?_;intro ce aO h b3 bq b4 br;exact rt
   exact rt
 rintro e b5 ⟨hE,bs⟩;obtain ⟨e,rfl⟩:=hE.out;have h:=ae;refine T ?_;intro cf aP h b6 ah;obtain ⟨p,W,af⟩:=ob h;refine CW.cut (fun e wb=>En e [(0,.pointer (some ⟨l,0,none⟩)),(4,.pointer (some ⟨u,0,none⟩)),(5,vI z.1),(7,.pointer (some ⟨n,0,none⟩)),(9,vI p.1)]∧St w0 F wb [bx l 177 [vS g q.b.length j,vI p.2.1,vI p.2.2],bx n 28 [vI f.1.HA,vI m.2.2,vI f.1.b,vI f.1.c,vI f.1.d,vI f.1.e],bx u 62 [vI 0,vI 0,vI 0,vI 0,vI 0,vI 0,vI 0,vI 0,vI 0]]) ?_ ?_
 · have h:=W;refine CW.fl [0,3,4,5,7,9,75] fun e=>?_;refine gc h ?_ ?_<;>intro _ h
   · refine kG ?_;have bt:=ah.drew;refine go ?_;refine T ?_;intro cg aQ h a0 bc b7 bu;refine gc h ?_ ?_<;>intro _ h
     · refine T ?_;intro ci aR h b8 H;have ⟨cj,C,h⟩:=ob h;obtain ⟨a2,bY,hae,aB,aD⟩:=H.im (α:=Int) (i:=1) rfl C;subst hae;refine go ?_;obtain ⟨aS,Y,bv⟩:=H.freeze (α:=Int) 1 rfl;obtain ⟨a3,bZ,av,hae,ax,_,_,U,az⟩:=Y.jB.idx C;cases hae;obtain rfl:=U;refine T ?_;exact rt
     exact rt
   exact rt
 rintro e b9 ⟨hE,bw⟩;obtain ⟨e,rfl⟩:=hE.out;have h:=af;refine jj [(0,vI 2),(1,vI z.1),(2,vI p.1),(3,.agg #[vI f.1.HA,vI m.2.2,vI f.1.b,vI f.1.c,vI f.1.d,vI f.1.e])] #[vI 2,vI z.1,vI p.1,vI f.1.HA,vI m.2.2,vI f.1.b,vI f.1.c,vI f.1.d,vI f.1.e] ?_;refine T ?_;intro ca I;replace h:=oi h;subst h;exact And.intro trivial ⟨_,jM.one (hP.b I 2 rfl vf rfl rfl),rfl,I.pk [0]⟩
instance k_303:Ct prog 303:=⟨by kernel_rfl,@xY⟩
end Go.Kx
