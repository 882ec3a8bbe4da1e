import Derived.Test.YtlcgibcdiikheaaGreatWa52
import Derived.Test.YtlcgibcdiikheaaGreatWa56
namespace Go.Kx
open Go Go.RowKit Go.Proofs
open Go.IntKind (i64)
open Tryz
set_option maxRecDepth 10000
set_option maxHeartbeats 8000000
set_option linter.unusedVariables false
set_option linter.unusedSimpArgs false
theorem Ep {w0} {F:List Nat} {N l r} (h:rv N l=some r) {n:Nat} {g j} (an:iR (jo w0 F) w0 g j l.b) (hS:St w0 F w0 [bx n 177 [vS g l.b.length j,vI l.i,vI l.h]]) :
    iq prog 146 #[.pointer (some ⟨n,0,none⟩)] w0 (fun v w=>∃ p u,v=.agg #[vI r.1.PQ,vS p r.1.parts.length u]∧St w0 F w [sl p u r.1.parts,bx n 177 [vS g l.b.length j,vI r.2.i,vI r.2.h]]):=by
 unfold rv at h;refine iq.fn func146 fun e=>?_;refine T ?_;intro ac aX ay aZ aE h aV aW aY az ah aF h A k aH aA x aI aB aJ aj;refine go ?_;obtain ⟨aG,af,ai⟩:=ob h;refine CW.ie af 0 (fun f e wb=>En e [(0,.pointer (some ⟨n,0,none⟩)),(2,.pointer (some ⟨ac,0,none⟩)),(3,.pointer (some ⟨x,0,none⟩)),(4,vI f.2.1)]∧St w0 F wb [bx x 26 [vI ah.PQ,vS A f.1.length k],sl A k f.1,bx n 177 [vS g l.b.length j,vI f.2.2.1,vI f.2.2.2],bx ac 26 [vI 0,vS none 0 0]]) ?_ (aj.po [0,1,3,4]) ?_
 · intro f e aK o hM h;obtain ⟨e,rfl,aC⟩:=eo hM;refine gc h ?_ ?_<;>intro _ h
   · refine T ?_;intro aS av h aL ak;refine CW.fl [0,2,3,4,16] fun e=>?_;refine gc h ?_ ?_<;>intro _ h
     · refine dW ?_;have aD:=ak.drew;refine T ?_;intro d aw h B O C R H U I V J W K X aM ad;have ⟨am,aa,h⟩:=ob h;obtain ⟨q,m,hae,ar,au⟩:=ad.iF (α:=cd) (i:=8) rfl aa;subst hae;refine go ?_;have ae:=ad.pk (M:=[sl B O d.1.PB.PA,sl C R d.1.own,sl H U d.1.PC,sl I V d.1.py.ag,sl J W d.1.py.gc.hZ,sl K X d.1.ia]++[bx n 177 [vS g l.b.length j,vI d.2.i,vI d.2.h],bx x 26 [vI ah.PQ,vS (some ⟨q,m,none⟩) f.1.length k],sl (some ⟨q,m,none⟩) k f.1,bx ac 26 [vI 0,vS none 0 0]]) [0,1,2,3,4,5,6,7,8,9];have ⟨aT,ab,h⟩:=ob h;refine T ?_;refine LW.AV (M:=[sl B O d.1.PB.PA,sl C R d.1.own,sl H U d.1.PC,sl I V d.1.py.ag,sl J W d.1.py.gc.hZ,sl K X d.1.ia]) (L:=[bx n 177 [vS g l.b.length j,vI d.2.i,vI d.2.h],bx x 26 [vI ah.PQ,vS (some ⟨q,m,none⟩) f.1.length k],sl (some ⟨q,m,none⟩) k f.1,bx ac 26 [vI 0,vS none 0 0]]) (z:=am) (z':=d.1) (o:=0) ae (i:=2) rfl aa lV rfl (by show _=m+(f.2.1:Int).toNat * 16+0;omega) rfl rfl rfl rfl (whole (fun w G hG=>⟨B,O,C,R,H,U,I,V,J,W,K,X,rfl,hG⟩)) ?_;intro aN Y hf;rw [oi ab] at Y;refine T ?_;rw [iB (oi ab)] at Y;exact rt
     exact rt
   exact rt
 rintro e aO ⟨hE,ao⟩;obtain ⟨e,rfl⟩:=hE.out;have h:=ai;refine T ?_;intro aU ax h aP ap aQ aq aR Z;replace h:=oi h;subst h;exact And.intro trivial ⟨_,kI.one (iD.b Z 3 rfl rR rfl rfl),A,k,rfl,Z.pk [2,0]⟩
instance k_146:Ct prog 146:=⟨by kernel_rfl,@Ep⟩
theorem HK {w0} {F:List Nat} {N l r} (h:uI N l=some r) {p:Nat} {f g} (ar:iR (jo w0 F) w0 f g l.b) (hS:St w0 F w0 [bx p 177 [vS f l.b.length g,vI l.i,vI l.h]]) :
    iq prog 68 #[.pointer (some ⟨p,0,none⟩)] w0 (fun v w=>∃ q x,v=.agg #[vI r.1.PQ,vS q r.1.parts.length x]∧St w0 F w [sl q x r.1.parts,bx p 177 [vS f l.b.length g,vI r.2.i,vI r.2.h]]):=by
 unfold uI at h;refine iq.fn func68 fun e=>?_;refine T ?_;intro af bn aV B a0 h bm ae bo aW ah a2 aX a3 aY bf aD h a4 A;obtain ⟨m,an,ao⟩:=ob h;refine CW.cut (fun e wb=>∃ (j:Ad) (k:Nat),En e [(0,.pointer (some ⟨p,0,none⟩)),(2,.pointer (some ⟨af,0,none⟩)),(3,.pointer (some ⟨ah,0,none⟩))]∧St w0 F wb [bx p 177 [vS f l.b.length g,vI m.1,vI m.2.1],bx ah 26 [vI m.2.2.1,vS j m.2.2.2.length k],bx af 26 [vI 0,vS none 0 0],sl j k m.2.2.2]) ?_ ?_
 · have h:=an;refine gc h ?_ ?_<;>intro _ h
   · refine dW ?_;have aZ:=A.drew;refine T ?_;intro d aE h C R H U I V J W K X O Y a5 ai;have ⟨aq,aa,h⟩:=ob h;obtain ⟨u,n,hae,az,aB⟩:=ai.iF (α:=cd) (i:=8) rfl aa;subst hae;refine go ?_;have ap:=ai.pk (M:=[sl C R d.1.PB.PA,sl H U d.1.own,sl I V d.1.PC,sl J W d.1.py.ag,sl K X d.1.py.gc.hZ,sl O Y d.1.ia]++[bx p 177 [vS f l.b.length g,vI d.2.i,vI d.2.h],bx ah 26 [vI B.1.PQ,vS (some ⟨u,n,none⟩) B.1.parts.length ae],sl (some ⟨u,n,none⟩) ae B.1.parts,bx af 26 [vI 0,vS none 0 0]]) [0,1,2,3,4,5,6,7,8,9];have ⟨bg,ab,h⟩:=ob h;refine T ?_;refine LW.AV (M:=[sl C R d.1.PB.PA,sl H U d.1.own,sl I V d.1.PC,sl J W d.1.py.ag,sl K X d.1.py.gc.hZ,sl O Y d.1.ia]) (L:=[bx p 177 [vS f l.b.length g,vI d.2.i,vI d.2.h],bx ah 26 [vI B.1.PQ,vS (some ⟨u,n,none⟩) B.1.parts.length ae],sl (some ⟨u,n,none⟩) ae B.1.parts,bx af 26 [vI 0,vS none 0 0]]) (z:=aq) (z':=d.1) (o:=0) ap (i:=2) rfl aa lV rfl (by show _=n+(0:Int).toNat * 16+0;omega) rfl rfl rfl rfl (whole (fun w G hG=>⟨C,R,H,U,I,V,J,W,K,X,O,Y,rfl,hG⟩)) ?_;intro a7 aj hf;rw [oi ab] at aj;refine T ?_;rw [iB (oi ab)] at aj;exact rt
   refine gc h ?_ ?_<;>intro _ h
   · refine go ?_;refine LW.bi [-1,1000000,1000001] A ?_;intro aS aU a8 au hf;refine T ?_;intro bj aF h a9 av ba aw;exact rt
   refine kD [0,2,3,7,21] fun e=>?_;refine gc h ?_ ?_<;>intro _ h
   · refine T ?_;intro bb ak;have ax:=ak.nil (α:=cd);exact rt
   refine gc h ?_ ?_<;>intro _ h
   · refine gb h fun bk ac h=>?_;obtain ⟨aT,a1,hae,aA,aC⟩:=A.iF (α:=cd) (i:=2) rfl ac;subst hae;refine go ?_;refine gb h fun bl ad h=>?_;refine LW.se 12 A 2 ac ad (hM:=(ko (fun w cs F hF=>by obtain ⟨aG,aM,aH,aN,aI,aO,aJ,aP,aK,aQ,aL,aR,rfl,hH⟩:=hF;exact ⟨aG,aM,aH,aN,aI,aO,aJ,aP,aK,aQ,aL,aR,rfl,hH⟩))) fun bc am=>?_;refine go ?_;rw [iB (oi ad)] at am;exact rt
   exact rt
 rintro e bd ⟨j,k,hE,ay⟩;obtain ⟨e,rfl⟩:=hE.out;have h:=ao;refine T ?_;intro be Z;replace h:=oi h;subst h;exact And.intro trivial ⟨_,kI.one (iD.b Z 2 rfl rR rfl rfl),j,k,rfl,Z.pk [3,0]⟩
instance k_68:Ct prog 68:=⟨by kernel_rfl,@HK⟩
theorem vF {w0 N I r} (h:nQ N I=some r) {g G j} (aa:G=I.length) (au:rb w0 g j I) :
    iq prog 12 #[vS g G j] w0 (fun v w=>∃ n o,v=.tuple #[.agg #[vI r.1.PQ,vS n r.1.parts.length o],vI r.2.1,vI r.2.2.1,.agg #[vI r.2.2.2.Pz,vI r.2.2.2.a,vI r.2.2.2.b,vI r.2.2.2.c,vI r.2.2.2.d,vI r.2.2.2.e]]∧St w0 [] w [sl n o r.1.parts]):=by
 subst aa;unfold nQ at h;refine iq.fn func12 fun e=>?_;have cz:=St.start w0;refine T ?_;intro V c3 cA W c4 cB c6 cI h X c5 cC ab cJ h b9 x cN cD p cO cE cP cF;refine CW.fl [2,5,6,7,18] fun e=>?_;refine gc h ?_ ?_<;>intro _ h
 · refine jL [(0,vI 1)] #[vI 1,vI 0,vI 0,vI 0,vI 0,vI 0] ?_;refine T ?_;intro cQ cG cR cH;exact rt
 refine T ?_;intro ae bE h ad z;have ⟨c0,B,h⟩:=ob h;obtain ⟨u,H,hae,bq,bs⟩:=z.iF (α:=cd) (i:=2) rfl B;subst hae;refine go ?_;obtain ⟨ac,k,aT⟩:=z.freeze (α:=cd) 2 rfl;obtain ⟨cm,cK,aR,hae,bm,_,_,am,bo⟩:=k.kc.idx B;cases hae;obtain ⟨ca,cp,cb,cq,cc,cr,ce,cs,cf,ct,cg,cu,rfl,bu,bv,bw,bz,bA,bB⟩:=am;refine T ?_;intro R bF h cS aU q cT aV cU aW U bG h cV aX;refine T ?_;intro c1 bI h cW ai;obtain ⟨f,ao,aq⟩:=ob h;refine CW.cut (fun e wb=>En e [(2,.pointer (some ⟨V,0,none⟩)),(5,.pointer (some ⟨W,0,none⟩)),(6,.pointer (some ⟨X,0,none⟩)),(7,.pointer (some ⟨p,0,none⟩)),(8,vI ae.1),(9,.pointer (some ⟨q,0,none⟩))]∧St w0 [] wb [bx X 177 [vS g I.length j,vI f.1,vI f.2.1],bx q 28 [vI f.2.2.1,vI f.2.2.2.1,vI f.2.2.2.2.1,vI f.2.2.2.2.2.1,vI f.2.2.2.2.2.2.1,vI f.2.2.2.2.2.2.2],bx p 26 [vI ab.1.PQ,vS (some ⟨u,H,none⟩) ab.1.parts.length x],fz ad ac,bx W 28 [vI 0,vI 0,vI 0,vI 0,vI 0,vI 0],bx V 26 [vI 0,vS none 0 0]]) ?_ ?_
 · have h:=ao;refine gc h ?_ ?_<;>intro _ h
   · refine go ?_;refine LW.bi [7,17,16] ai ?_;intro ci cv cX aY hf;refine T ?_;intro ar bJ h cY aZ cZ a0;have ⟨c2,C,h⟩:=ob h;obtain ⟨cn,cL,hae,br,bt⟩:=k.iF C;cases hae;refine go ?_;obtain ⟨co,cM,aS,hae,bn,_,_,an,bp⟩:=k.kc.idx C;cases hae;obtain ⟨cj,cw,ck,cx,cl,cy,aJ,aN,aK,aO,aL,aP,rfl,bC,bD,av,aw,ax,ay⟩:=an;refine T ?_;intro b4 az h bK a1 bL a2;obtain ⟨l,Y,af⟩:=ob h;refine CW.cut (fun e wb=>En e [(2,.pointer (some ⟨V,0,none⟩)),(5,.pointer (some ⟨W,0,none⟩)),(6,.pointer (some ⟨X,0,none⟩)),(7,.pointer (some ⟨p,0,none⟩)),(8,vI ae.1),(9,.pointer (some ⟨q,0,none⟩)),(10,vI U.1)]∧St w0 [] wb [bx X 177 [vS g I.length j,vI l.1,vI l.2.1],bx q 28 [vI ar.1,vI l.2.2.1,vI l.2.2.2,vI R.1.c,vI R.1.d,vI R.1.e],bx p 26 [vI ab.1.PQ,vS (some ⟨u,H,none⟩) ab.1.parts.length x],fz ad ac,bx W 28 [vI 0,vI 0,vI 0,vI 0,vI 0,vI 0],bx V 26 [vI 0,vS none 0 0]]) ?_ ?_
     · have h:=Y;refine CW.fl [2,5,6,7,8,9,10,56] fun e=>?_;refine gc h ?_ ?_<;>intro _ h
       · refine go ?_;refine T ?_;intro b5 aA h bM a3 bN a4 b6 aB h bO a5 bP a6;exact rt
       exact rt
     rintro e bQ ⟨hE,a7⟩;obtain ⟨e,rfl⟩:=hE.out;have h:=af;refine kD [2,5,6,7,8,9,10,71] fun e=>?_;refine gc h ?_ ?_<;>intro _ h
     · refine T ?_;intro J aC h bR a8 K aD h bS a9 L aE h bT ba M aF h bU bb O aG h bV bc;refine LW.bd [(0,vI 16),(1,vI J.1),(2,vI U.1),(3,vI K.1),(4,vI (i64.wrap ((i64.wrap ((i64.wrap (L.1 * 10))+1))+M.1))),(5,vI O.1)] #[vI 16,vI J.1,vI U.1,vI K.1,vI (i64.wrap ((i64.wrap ((i64.wrap (L.1 * 10))+1))+M.1)),vI O.1] ?_;refine T ?_;intro bW be;exact rt
     exact rt
   exact rt
 rintro e bX ⟨hE,bf⟩;obtain ⟨e,rfl⟩:=hE.out;have h:=aq;refine T ?_;intro b7 aH h bY A;obtain ⟨ap,Z,ah⟩:=ob h;refine CW.jn [2,5,7,9] [1,2,3,4,5] [(8,vI ap)] A (h1:=?_) (h2:=?_)
 · have h:=Z;refine gc h ?_ ?_<;>intro _ h
   · refine go ?_;refine LW.bi [-1,3] A ?_;intro aM aQ bZ bg hf;refine T ?_;intro b8 aI h b0 bj;exact rt
   exact rt
 intro e b1 aj;have h:=ah;refine kb ?_;have bk:=aj.drew;refine T ?_;intro b2 bl b3 ak;cases h;have m:=ak.i7 (α:=cd) 2 rfl k;exact And.intro trivial ⟨_,kI.four (iD.b m 4 rfl rR rfl rfl) (iD.t rfl) (iD.t rfl) (iD.b m 3 rfl KY rfl rfl),(some ⟨u,H,none⟩),x,rfl,m.pk [2]⟩
instance k_12:Ct prog 12:=⟨by kernel_rfl,@vF⟩
end Go.Kx
