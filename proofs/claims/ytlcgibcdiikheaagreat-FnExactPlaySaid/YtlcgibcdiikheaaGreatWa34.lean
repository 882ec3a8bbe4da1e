import Derived.Test.YtlcgibcdiikheaaGreatWa28
import Derived.Test.YtlcgibcdiikheaaGreatWa29
import Derived.Test.YtlcgibcdiikheaaGreatWa30
namespace Go.Kx
open Go Go.RowKit Go.Proofs
open Tryz
set_option maxRecDepth 10000
set_option maxHeartbeats 8000000
set_option linter.unusedVariables false
set_option linter.unusedSimpArgs false
theorem CT {w0 N j R p g r} (h:qe N j R p g=some r) {k m l} (n:m=j.parts.length) (o:rb w0 k l j.parts) :
    gV prog 79 #[.agg #[vI j.Pt,vS k m l],vI R,vI p,.agg #[vI g.Pf,vI g.a,vI g.b,vI g.c,vI g.d,vI g.e]] w0 (fun v w=>v=.tuple #[vI r.1,vI r.2]∧St w0 [] w []):=by
 subst n;unfold qe at h;refine gV.fn func79 fun e=>?_;have aA:=St.start w0;refine T ?_;intro aO aQ aB aP aR aC aT aI h aS M;refine gc h ?_ ?_<;>intro _ h
 · exact rt
 refine jK ?_;have aD:=M.drew;refine gb h fun aU O h=>?_;obtain ⟨ap,aJ,U,rfl,V,aH,X,⟨ah,aq,ai,ar,aj,au,ak,av,am,aw,an,ax,rfl,Y,Z,aa,ab,ac,ad⟩,W⟩:=o.idx O;refine go ?_;refine T ?_;refine jP 5 ?_;refine T ?_;intro f ae h q G x H z I A J B K C L aK aE;refine AW.u (i:=9) rfl (by kernel_rfl) rfl rfl (il.build (vs:=[(0,.agg #[vS q f.Pe.Pd.length G,vS x f.own.length H,vS z f.Pg.length I,vS A f.py.ag.length J,vI f.py.gc.Ph,vI f.py.gc.Pr,vI f.py.gc.Pj,vS B f.py.gc.gQ.length K,vS C f.gR.length L,vI f.Pn,vI f.Pp,vI f.cd.gE,vI f.cd.gX,vI f.cd.g8,vI f.g5,vI f.Pm]),(1,vI p),(2,vI j.Pt)]) (cs:=#[vS q f.Pe.Pd.length G,vS x f.own.length H,vS z f.Pg.length I,vS A f.py.ag.length J,vI f.py.gc.Ph,vI f.py.gc.Pr,vI f.py.gc.Pj,vS B f.py.gc.gQ.length K,vS C f.gR.length L,vI f.Pn,vI f.Pp,vI f.cd.gE,vI f.cd.gX,vI f.cd.g8,vI f.g5,vI f.Pm,vI p,vI j.Pt,vI 0]) rfl (by kernel_rfl)) ?_;refine T ?_;intro az aL aF aN af h ao ay aM aG;exact rt
instance k_79:Ct prog 79:=⟨by kernel_rfl,@CT⟩
theorem CU {w0} {F:List Nat} {N o z r} (h:qc N o z=some r) {O:Nat} {p u} (aX:iR (jA w0 F) w0 p u o.Pc.Pe.Pd) {q x} (aY:iR (jA w0 F) w0 q x o.Pc.own) {i k m n j l f g} (hS:St w0 F w0 [bx O 188 (qC p u q x i k m n j l f g o),sl i k o.Pc.Pg,sl m n o.Pc.py.ag,sl j l o.Pc.py.gc.gQ,sl f g o.Pc.gR]) :
    gV prog 163 #[.pointer (some ⟨O,0,none⟩),.agg #[vI z.Pf,vI z.a,vI z.b,vI z.c,vI z.d,vI z.e]] w0 (fun v w=>∃ A H, ∃ B I, ∃ C J, ∃ G K,v=.tuple #[vI r.1,vI r.2.1]∧St w0 F w [bx O 188 [vS p o.Pc.Pe.Pd.length u,vS q o.Pc.own.length x,vS A r.2.2.Pc.Pg.length H,vS B r.2.2.Pc.py.ag.length I,vI r.2.2.Pc.py.gc.Ph,vI r.2.2.Pc.py.gc.Pr,vI r.2.2.Pc.py.gc.Pj,vS C r.2.2.Pc.py.gc.gQ.length J,vS G r.2.2.Pc.gR.length K,vI r.2.2.Pc.Pn,vI r.2.2.Pc.Pp,vI r.2.2.Pc.cd.gE,vI r.2.2.Pc.cd.gX,vI r.2.2.Pc.cd.g8,vI r.2.2.Pc.g5,vI r.2.2.Pc.Pm,vI r.2.2.me,vI r.2.2.Pt,vI r.2.2.ir],sl A H r.2.2.Pc.Pg,sl B I r.2.2.Pc.py.ag,sl C J r.2.2.Pc.py.gc.gQ,sl G K r.2.2.Pc.gR]):=by
 unfold qc at h;refine gV.fn func163 fun e=>?_;refine T ?_;intro bK bL aJ;refine gc h ?_ ?_<;>intro _ h
 · refine T ?_;intro bM bg h aZ a1 a0 aq ad ar bi aK;replace h:=oi h;subst h;exact Rc tt tt ⟨aZ,a1,a0,aq,ad,ar,f,g,rfl,aK.pk [0,1,2,3,5]⟩
 refine gs ?_;refine CW.region ?_;refine gs ?_;obtain ⟨aS,Y,aE⟩:=ob h;refine CW.jn [0,3,7] [0,1,2,3,4,5] [(15,.bool aS)] aJ (h1:=?_) (h2:=?_)
 · have h:=Y;refine gc h ?_ ?_<;>intro _ h
   · exact rt
   exact rt
 intro e bj aL;have h:=aE;refine gc h ?_ ?_<;>intro _ h
 · refine T ?_;intro bA a5 h ae au af av bk aM;replace h:=oi h;subst h;exact Rc tt tt ⟨i,k,ae,au,af,av,f,g,rfl,aM.pk [0,4,1,2,5]⟩
 refine gs ?_;refine CW.region ?_;refine gs ?_;obtain ⟨aT,Z,aF⟩:=ob h;refine CW.jn [0,3,7] [0,1,2,3,4,5] [(21,.bool aT)] aL (h1:=?_) (h2:=?_)
 · have h:=Z;refine gc h ?_ ?_<;>intro _ h
   · exact rt
   exact rt
 intro e bl aN;have h:=aF;refine gc h ?_ ?_<;>intro _ h
 · refine T ?_;intro bB a6 h ah aw ai ax bm aO;replace h:=oi h;subst h;exact Rc tt tt ⟨i,k,ah,aw,ai,ax,f,g,rfl,aO.pk [0,4,1,2,5]⟩
 refine gs ?_;refine CW.region ?_;refine gs ?_;obtain ⟨aU,aa,aG⟩:=ob h;refine CW.jn [0,3,7] [0,1,2,3,4,5] [(27,.bool aU)] aN (h1:=?_) (h2:=?_)
 · have h:=aa;refine CW.fl [0,3,7,27] fun e=>?_;refine gc h ?_ ?_<;>intro _ h
   · exact rt
   exact rt
 intro e bn aP;have h:=aG;refine jw [0,3,7,27] fun e=>?_;refine gc h ?_ ?_<;>intro _ h
 · refine T ?_;intro bC a8 h aj ay bo aQ;replace h:=oi h;subst h;exact Rc tt tt ⟨i,k,aj,ay,j,l,f,g,rfl,aQ.pk [0,3,1,4,5]⟩
 refine gc h ?_ ?_<;>intro _ h
 · refine T ?_;intro bD ba h ak az am aA bp aR;replace h:=oi h;subst h;exact Rc tt tt ⟨ak,az,am,aA,j,l,f,g,rfl,aR.pk [0,1,2,4,5]⟩
 refine gs ?_;refine CW.region ?_;refine gs ?_;obtain ⟨aV,ab,aH⟩:=ob h;refine CW.jn [0,3,7] [0,1,2,3,4,5] [(40,.bool aV)] aP (h1:=?_) (h2:=?_)
 · have h:=ab;refine gc h ?_ ?_<;>intro _ h
   · exact rt
   refine gc h ?_ ?_<;>intro _ h
   · exact rt
   exact rt
 intro e bq R;have h:=aH;refine gc h ?_ ?_<;>intro _ h
 · refine T ?_;intro bE bb h an aB br U;replace h:=oi h;subst h;exact Rc tt tt ⟨an,aB,m,n,j,l,f,g,rfl,U.pk [0,1,3,4,5]⟩
 refine gs ?_;refine CW.region ?_;refine gs ?_;obtain ⟨aW,ac,aI⟩:=ob h;refine CW.jn [0,3,7] [0,1,2,3,4,5] [(49,.bool aW)] R (h1:=?_) (h2:=?_)
 · have h:=ac;refine gc h ?_ ?_<;>intro _ h
   · exact rt
   exact rt
 intro e bs L;have h:=aI;refine gc h ?_ ?_<;>intro _ h
 · refine T ?_;intro bF bc h ao aC bt V;replace h:=oi h;subst h;exact Rc tt tt ⟨i,k,ao,aC,j,l,f,g,rfl,V.pk [0,3,1,4,5]⟩
 refine gc h ?_ ?_<;>intro _ h
 · refine T ?_;intro bG bd h bu W;replace h:=oi h;subst h;exact Rc tt tt ⟨i,k,m,n,j,l,f,g,rfl,W.pk [0,2,3,4,5]⟩
 refine gc h ?_ ?_<;>intro _ h
 · refine jK ?_;have a2:=L.drew;refine T ?_;intro bI be h bv M;refine gc h ?_ ?_<;>intro _ h
   · refine go ?_;replace h:=oi h;subst h;exact Rc tt tt ⟨i,k,m,n,j,l,f,g,rfl,M.pk [1,2,3,4,5]⟩
   refine jK ?_;have a3:=M.drew;refine T ?_;intro bJ bf h ap aD bw a4 bz X;replace h:=oi h;subst h;exact Rc tt tt ⟨i,k,m,n,j,l,ap,aD,rfl,X.pk [2,3,4,5,0]⟩
 refine go ?_;replace h:=oi h;subst h;exact Rc tt tt ⟨i,k,m,n,j,l,f,g,rfl,L.pk [1,2,3,4,5]⟩
instance k_163:Ct prog 163:=⟨by kernel_rfl,@CU⟩
end Go.Kx
