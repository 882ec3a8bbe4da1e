import Derived.Test.YtlcgibcdiikheaaGreatWa38
import Derived.Test.YtlcgibcdiikheaaGreatWa39
namespace Go.Kx
open Go Go.RowKit Go.Proofs
open Tryz
set_option maxRecDepth 10000
set_option maxHeartbeats 8000000
set_option linter.unusedVariables false
set_option linter.unusedSimpArgs false
theorem Hh {w0} {F:List Nat} {N f g r} (h:uD N f g=some r) {A U J} (aa:U=f.PB.PA.length) {B V K} (ab:V=f.own.length) {C W L} (ac:W=f.PC.length) {G X M} (ad:X=f.py.ag.length) {H Y O} (ae:Y=f.py.gc.hZ.length) {I Z R} (af:Z=f.ia.length) (hS:St w0 F w0 [sl A J f.PB.PA,sl B K f.own,sl C L f.PC,sl G M f.py.ag,sl H O f.py.gc.hZ,sl I R f.ia]) :
    iq prog 175 #[.agg #[vS A U J,vS B V K,vS C W L,vS G X M,vI f.py.gc.PD,vI f.py.gc.PL,vI f.py.gc.PF,vS H Y O,vS I Z R,vI f.PJ,vI f.PI,vI f.hY.bh,vI f.hY.ib,vI f.hY.ij,vI f.ik,vI f.PH],.agg #[vI g.Pz,vI g.a,vI g.b,vI g.c,vI g.d,vI g.e]] w0 (fun v w=>∃ i o, ∃ j p, ∃ k q, ∃ l u, ∃ m x, ∃ n z,v=.tuple #[.agg #[vS i r.1.PB.PA.length o,vS j r.1.own.length p,vS k r.1.PC.length q,vS l r.1.py.ag.length u,vI r.1.py.gc.PD,vI r.1.py.gc.PL,vI r.1.py.gc.PF,vS m r.1.py.gc.hZ.length x,vS n r.1.ia.length z,vI r.1.PJ,vI r.1.PI,vI r.1.hY.bh,vI r.1.hY.ib,vI r.1.hY.ij,vI r.1.ik,vI r.1.PH],.agg #[vI r.2.code,vI r.2.PR]]∧St w0 F w [sl i o r.1.PB.PA,sl j p r.1.own,sl k q r.1.PC,sl l u r.1.py.ag,sl m x r.1.py.gc.hZ,sl n z r.1.ia]):=by
 subst aa ab ac ad ae af;unfold uD at h;refine iq.fn func175 fun e=>?_;refine T ?_;intro b0 b4 a9 b1 b5 ba b2 b6 bb b3 b7 ah;refine gc h ?_ ?_<;>intro _ h
 · refine gs ?_;obtain ⟨ap,ak,an⟩:=ob h;refine CW.jn [2,3,4,5] [0,1,2,3,4,5,6,7,8,9] [(31,.bool ap)] ah (h1:=?_) (h2:=?_)
   · have h:=ak;refine T ?_;intro bR aT h bj bc;refine bH h ?_ ?_<;>intro _ h
     · exact rt
     refine jL [(0,vI g.b),(1,vI g.c),(2,vI g.d)] #[vI g.b,vI g.c,vI g.d] ?_;refine T ?_;intro bS aU h bk be;exact rt
   intro e bl bf;have h:=an;refine gc h ?_ ?_<;>intro _ h
   · refine jL [(0,vI 2)] #[vI 2,vI 0] ?_;refine T ?_;intro bm bg bn bi;exact rt
   refine jL [(0,vI g.b),(1,vI g.c),(2,vI g.d)] #[vI g.b,vI g.c,vI g.d] ?_;refine T ?_;intro ai aV h a3 a6 bo ar;refine CW.fl [2,4,5,6,7,51] fun e=>?_;refine gc h ?_ ?_<;>intro _ h
   · refine jL [(0,vI 6)] #[vI 6,vI 0] ?_;refine T ?_;intro bp au bq av;exact rt
   refine T ?_;intro br aw;refine LW.bd [(1,vI ai.2.1)] #[vI 0,vI ai.2.1] ?_;refine T ?_;intro bs ax bt ay;exact rt
 refine gc h ?_ ?_<;>intro _ h
 · refine gs ?_;obtain ⟨aq,am,ao⟩:=ob h;refine CW.jn [2,3,4,5] [0,1,2,3,4,5,6,7,8,9] [(82,.bool aq)] ah (h1:=?_) (h2:=?_)
   · have h:=am;refine T ?_;intro bT aW h bu az;refine bH h ?_ ?_<;>intro _ h
     · exact rt
     refine T ?_;intro bU aX h bv aA;refine bH h ?_ ?_<;>intro _ h
     · exact rt
     refine go ?_;refine T ?_;intro bV aY h bw aB;refine bH h ?_ ?_<;>intro _ h
     · exact rt
     refine T ?_;intro bW aZ h bz aC;exact rt
   intro e bA aj;have h:=ao;refine gc h ?_ ?_<;>intro _ h
   · refine jL [(0,vI 2)] #[vI 2,vI 0] ?_;refine T ?_;intro bB aD bC aE;exact rt
   refine kb ?_;have aF:=aj.drew;refine T ?_;intro bX a0 h bD aG bY a1 h a4 a7 bE aH;refine gc h ?_ ?_<;>intro _ h
   · refine jL [(0,vI 6)] #[vI 6,vI 0] ?_;refine T ?_;intro bF aI bG aJ;exact rt
   refine T ?_;intro bI aK;refine LW.bd [] #[vI 0,vI 0] ?_;refine T ?_;intro bJ aL bK aM;exact rt
 refine T ?_;intro bZ a2 h a5 a8 bL aN;refine CW.fl [2,4,5,11,117] fun e=>?_;refine gc h ?_ ?_<;>intro _ h
 · refine jL [(0,vI 2)] #[vI 2,vI 0] ?_;refine T ?_;intro bM aO bN aP;exact rt
 refine T ?_;intro bO aQ;refine LW.bd [] #[vI 0,vI 0] ?_;refine T ?_;intro bP aR bQ aS;exact rt
instance k_175:Ct prog 175:=⟨by kernel_rfl,@Hh⟩
theorem Fs {w0 N i r} (h:sH N i=some r) {d j f} (k:j=i.parts.length) (l:rb w0 d f i.parts) :
    iq prog 75 #[.agg #[vI i.PQ,vS d j f]] w0 (fun v w=>v=.bool r∧St w0 [] w []):=by
 subst k;unfold sH at h;refine iq.fn func75 fun e=>?_;have aB:=St.start w0;refine T ?_;intro a3 a4 A;obtain ⟨aj,C,H⟩:=ob h;refine CW.jn [1] [0] [(16,.bool aj)] A (h1:=?_) (h2:=?_)
 · have h:=C;refine T ?_;intro a7 aI h a5 aC;refine bH h ?_ ?_<;>intro _ h
   · exact rt
   refine T ?_;intro a8 aJ h a6 aD;exact rt
 intro e aM aE;have h:=H;refine gc h ?_ ?_<;>intro _ h
 · exact rt
 refine jL [] #[vI 0,vI 0,vI 0] ?_;refine T ?_;intro g aN aF aO B;refine go ?_;obtain ⟨n,q,m⟩:=ob h;refine CW.it q (fun b e wb=>En e [(3,.pointer (some ⟨g,0,none⟩)),(19,vS d i.parts.length f),(20,vI (i.parts.length:Int)),(21,vI b.1)]∧St w0 [] wb [bx g 48 [vI b.2.1,vI b.2.2.1,vI b.2.2.2]]) (fun o x e wb=>match o with | .inl b=>x=.exit 0∧En e [(3,.pointer (some ⟨g,0,none⟩))]∧St w0 [] wb [bx g 48 [vI b.2.1,vI b.2.2.1,vI b.2.2.2]] | .inr r=>x=.ret∧∃ u,u=r∧∃ v,kI prog f75.results e wb v∧v=.bool u∧St w0 [] wb []) ?_ (B.po [0]) ?_
 · intro b e aP o hM h;obtain ⟨hE,aG⟩:=hM;obtain ⟨e,rfl⟩:=hE.out;refine gc h ?_ ?_<;>intro _ h
   · refine gb h fun aY z h=>?_;obtain ⟨ar,aK,G,rfl,U,W,X,⟨ak,au,am,av,an,aw,ao,ax,ap,ay,aq,az,rfl,Y,Z,aa,ab,ac,ad⟩,V⟩:=l.idx z;refine go ?_;refine T ?_;intro aA aQ aH aR I aZ ae h aS p;refine CW.fl [3,5,19,20,21,27] fun e=>?_;refine gc h ?_ ?_<;>intro _ h
     · exact rt
     refine kb ?_;have J:=p.drew;refine T ?_;intro a0 af h aT K a1 ah h aU L aV M;exact rt
   exact rt
 intro x e aW hM;rcases n with n | aL
 · obtain ⟨rfl,hM⟩:=hM;obtain ⟨hE,O⟩:=hM;obtain ⟨e,rfl⟩:=hE.out;have h:=m;refine T ?_;intro a2 ai h aX R;exact rt
 obtain ⟨rfl,u,rfl,hM⟩:=hM;cases m;exact And.intro trivial hM
instance k_75:Ct prog 75:=⟨by kernel_rfl,@Fs⟩
theorem FB {w0 N b aC r} (h:tg N b aC=some r) {j I q} (V:I=b.PB.PA.length) (aD:rb w0 j q b.PB.PA) {k J u} (W:J=b.own.length) (aE:rb w0 k u b.own) {l K x} (X:K=b.PC.length) (aF:rb w0 l x b.PC) {m O z} (Y:O=b.py.ag.length) (ab:rb w0 m z b.py.ag) {n R A} (Z:R=b.py.gc.hZ.length) (aG:rb w0 n A b.py.gc.hZ) {p U B} (aa:U=b.ia.length) (aH:rb w0 p B b.ia) :
    iq prog 156 #[.agg #[vS j I q,vS k J u,vS l K x,vS m O z,vI b.py.gc.PD,vI b.py.gc.PL,vI b.py.gc.PF,vS n R A,vS p U B,vI b.PJ,vI b.PI,vI b.hY.bh,vI b.hY.ib,vI b.hY.ij,vI b.ik,vI b.PH],vI aC] w0 (fun v w=>∃ ad af,v=vS ad r.length af∧St w0 [] w [sl ad af r]):=by
 subst V W X Y Z aa;unfold tg at h;refine iq.fn func156 fun e=>?_;have bc:=St.start w0;refine T ?_;intro aj bu aw;refine LW.b0 (α:=Int) aw ?_;intro aI aJ bv bd hf;refine T ?_;intro bz bf h bw be;refine gc h ?_ ?_<;>intro _ h
 · exact rt
 refine T ?_;intro aq bg h ac ae bn ax;refine go ?_;obtain ⟨bl,an,av⟩:=ob h;refine CW.ie an 0 (fun g e wb=>∃ (d:Ad) (f:Nat),En e [(2,.pointer (some ⟨aj,0,none⟩)),(5,vS d g.1.length f),(17,vS ac aq.length ae),(18,vI (aq.length:Int)),(19,vI g.2)]∧St w0 [] wb [sl ac ae aq,sl d f g.1,bx aj 50 (qP j q k u l x m z n A p B b)]) ?_ ⟨aI,aJ,ax.po [0,1,2]⟩ ?_
 · intro g e aB o hM h;obtain ⟨d,f,hE,ah⟩:=hM;obtain ⟨e,rfl⟩:=hE.out;refine kD [2,5,17,18,19,20] fun e=>?_;refine gc h ?_ ?_<;>intro _ h
   · refine gb h fun br H h=>?_;obtain ⟨a5,bi,hae,aT,aV⟩:=ah.iF (α:=Bool) (i:=0) rfl H;subst hae;refine go ?_;obtain ⟨ar,C,ay⟩:=ah.freeze (α:=Bool) 0 rfl;obtain ⟨a6,bj,aK,hae,aP,_,_,ak,aR⟩:=C.kc.idx H;cases hae;obtain rfl:=ak;refine T ?_;obtain ⟨aA,am,au⟩:=ob h;refine CW.jn [2,5,6,17,18,19] [0,1,2] [(34,.bool aA)] ay (h1:=?_) (h2:=?_)
     · have h:=am;refine gB h ?_ ?_<;>intro _ h
       · refine gb h fun bs ao h=>?_;obtain ⟨a7,bk,aL,rfl,aQ,aU,aW,⟨a0,a8,a1,a9,a2,ba,rfl,aX,aY,aZ⟩,aS⟩:=ab.idx ao;refine go ?_;refine T ?_;exact rt
       exact rt
     intro e bo ai;have h:=au;refine gc h ?_ ?_<;>intro _ h
     · refine gb h fun bt ap h=>?_;refine LW.l5 (M:=[]) (L:=[fz aB ar,sl d f g.1,bx aj 50 (qP j q k u l x m z n A p B b)]) (vs:=#[vI g.2]) (i:=1) nb rfl (by kernel_rfl) rfl rfl ap ai rfl (fun w G hG=>by cases (show G=[] from hG);exact ⟨rfl,rfl⟩) rfl rfl ?_;intro bm a4 bb bp az hf;refine go ?_;have aM:=az.i7 (α:=Bool) 0 rfl C;exact rt
     refine go ?_;have aN:=ai.i7 (α:=Bool) 0 rfl C;exact rt
   exact rt
 rintro e bq ⟨d,f,hE,aO⟩;obtain ⟨e,rfl⟩:=hE.out;have h:=av;exact rt
instance k_156:Ct prog 156:=⟨by kernel_rfl,@FB⟩
theorem oT {w0} {F:List Nat} {N b O R r} (h:kC N b O R=some r) {I:Nat} {d m} (U:iR (jo w0 F) w0 d m b.Py.PB.PA) {f n} (V:iR (jo w0 F) w0 f n b.Py.own) {g o} (W:iR (jo w0 F) w0 g o b.Py.PC) {j q} (A:iR (jo w0 F) w0 j q b.Py.py.ag) {k x} (X:iR (jo w0 F) w0 k x b.Py.py.gc.hZ) {l z} (Y:iR (jo w0 F) w0 l z b.Py.ia) (hS:St w0 F w0 [bx I 188 (qC d m f n g o j q k x l z b)]) :
    iq prog 249 #[.pointer (some ⟨I,0,none⟩),vI O,vI R] w0 (fun v w=>v=.tuple #[vI r.1,vI r.2.1]∧St w0 F w [bx I 188 [vS d b.Py.PB.PA.length m,vS f b.Py.own.length n,vS g b.Py.PC.length o,vS j b.Py.py.ag.length q,vI r.2.2.Py.py.gc.PD,vI r.2.2.Py.py.gc.PL,vI r.2.2.Py.py.gc.PF,vS k b.Py.py.gc.hZ.length x,vS l b.Py.ia.length z,vI r.2.2.Py.PJ,vI r.2.2.Py.PI,vI r.2.2.Py.hY.bh,vI r.2.2.Py.hY.ib,vI r.2.2.Py.hY.ij,vI r.2.2.Py.ik,vI r.2.2.Py.PH,vI r.2.2.me,vI r.2.2.PQ,vI r.2.2.jb]]):=by
 unfold kC at h;refine iq.fn func249 fun e=>?_;refine T ?_;intro aD au h aA B;refine gc h ?_ ?_<;>intro _ h
 · refine go ?_;replace h:=oi h;subst h;exact Rc tt tt ⟨rfl,B.pk [0]⟩
 refine kb ?_;have aq:=B.drew;refine go ?_;refine jP 1 ?_;refine T ?_;intro aE av h aB C;refine AW.u (i:=6) rfl (by kernel_rfl) rfl rfl (iQ.p rfl) ?_;refine gc h ?_ ?_<;>intro _ h
 · refine go ?_;replace h:=oi h;subst h;exact Rc tt tt ⟨rfl,C.pk [0]⟩
 refine kb ?_;have ar:=C.drew;refine T ?_;intro aF aw h aC G;refine gc h ?_ ?_<;>intro _ h
 · refine go ?_;replace h:=oi h;subst h;exact Rc tt tt ⟨rfl,G.pk [0]⟩
 refine gs ?_;obtain ⟨M,J,L⟩:=ob h;refine CW.jn [0,8] [0] [(52,.bool M)] G (h1:=?_) (h2:=?_)
 · have h:=J;refine gB h ?_ ?_<;>intro _ h
   · refine go ?_;refine LW.u (iQ.nc rfl) rfl ?_;refine gb h fun az K h=>?_;obtain ⟨am,ax,Z,rfl,aa,ac,ad,⟨ai,an,aj,ao,ak,ap,rfl,ae,af,ah⟩,ab⟩:=A.idx K;refine go ?_;refine T ?_;exact rt
   exact rt
 intro e ay H;have h:=L;refine gc h ?_ ?_<;>intro _ h
 · refine go ?_;replace h:=oi h;subst h;exact Rc tt tt ⟨rfl,H.pk [0]⟩
 refine go ?_;replace h:=oi h;subst h;exact Rc tt tt ⟨rfl,H.pk [0]⟩
instance k_249:Ct prog 249:=⟨by kernel_rfl,@oT⟩
end Go.Kx
