/- Each call returns what the plain function says. Printed by drive.py. -/
import Derived.Test.YtikeaiogpfjdnaaGreatFa
import Derived.Test.YtikeaiogpfjdnaaGreatPu
import Derived.Test.YtikeaiogpfjdnaaGreatWa4
import Derived.Test.YtikeaiogpfjdnaaGreatWa5
import Derived.Test.YtikeaiogpfjdnaaGreatWa6
namespace Go.Kx
open Go Go.RowKit Go.Proofs
set_option maxRecDepth 10000
set_option maxHeartbeats 8000000
set_option linter.unusedVariables false
set_option linter.unusedSimpArgs false
theorem W_s_Edges {w0 N ai aV r} (h:F_s_Edges N ai aV=some r) {k J m} (V:J=ai.length) (d:rb w0 k m ai) :
    Ret Tryz.prog 97 #[vS k J m,vI aV] w0 (fun v w=>∃ aj ak,v=vS aj r.length ak∧St w0 [] w [sl aj ak r]):=by
 subst V;unfold F_s_Edges at h;refine Ret.fn Tryz.func97 fun e=>?_;have aZ:=St.start w0;refine go ?_;refine LW.bsl (α:=Int) (vs:=[]) (cs:=#[]) (l:=([]:List Int)) rfl (by kernel_rfl) rfl rfl rfl (fun w=>rfl) aZ rfl ?_;intro aW aX cK s hf;refine gs ?_;obtain ⟨bL,a5,bA⟩:=ob h;refine CW.jn [0,1,5] [0] [(23,.bool bL)] s (h1:=?_) (h2:=?_)
 · have h:=a5;refine gb h fun cM a6 h=>?_;refine LW.c0 (W_s_ArenaOk a6 rfl (s.rB d)) s fun cL am=>?_;refine go ?_;rcases bh h with ⟨a4,h⟩ | ⟨a4,h⟩
   · refine go ?_;cases oi h;exact am.po [0]
   refine gb h fun cN a7 h=>?_;refine go ?_;refine LW.c0 (W_s_l8Slot a7) am fun cy u=>?_;refine go ?_;rcases bh h with ⟨aw,h⟩ | ⟨aw,h⟩
   · refine go ?_;cases oi h;exact u.po [0]
   refine gb h fun cD aO h=>?_;obtain ⟨cb,cu,bu,rfl,x,aI,aK,⟨bZ,cg,b0,ci,b1,cj,rfl,bB,bC,bD⟩,aG⟩:=d.idx aO;refine go ?_;refine ix aI aK ?_;refine go ?_;refine LW.l (Ldr.old w0 ag3 rfl (aG 1 _ rfl)) (u.same _ x.1 x.2) rfl ?_;refine go ?_;cases oi h;exact u.po [0]
 intro e cz an;have h:=bA;refine go ?_;refine ch h (fun ax h=>?_) fun ax h=>?_
 · refine go ?_;cases h;exact And.intro trivial ⟨_,Res.one (resOne.t rfl),aW,aX,rfl,an.pk [0]⟩
 refine go ?_;obtain ⟨bO,W,aq⟩:=ob h;refine CW.ie W 0 (fun f e wb=>∃ (b:Ad) (c:Nat),En e [(0,vS k ai.length m),(1,vI aV),(5,vS b f.1.length c),(6,vI f.2)]∧St w0 [] wb [sl b c f.1]) ?_ ⟨aW,aX,an.po [0]⟩ ?_
 · intro f e cA o hM h;obtain ⟨b,c,hE,a⟩:=hM;obtain ⟨e,rfl⟩:=hE.out;refine go ?_;refine ch h (fun ay h=>?_) fun ay h=>?_
   · refine gs ?_;refine CW.block ?_;refine gs ?_;obtain ⟨a8,aF,aY⟩:=ob h;refine CW.jn [0,1,5,6] [0] [(66,.bool a8)] a (h1:=?_) (h2:=?_)
     · have h:=aF;refine go ?_;rcases bh h with ⟨az,h⟩ | ⟨az,h⟩
       · refine gb h fun cE aP h=>?_;obtain ⟨cc,cv,bv,rfl,g,B,H,⟨b2,ck,b3,cl,b4,cm,rfl,bE,bF,bG⟩,z⟩:=d.idx aP;refine go ?_;refine ix B H ?_;refine go ?_;refine LW.l (Ldr.old w0 ag3 rfl (z 1 _ rfl)) (a.same _ g.1 g.2) rfl ?_;refine go ?_;rcases bh h with ⟨aA,h⟩ | ⟨aA,h⟩
         · refine go ?_;refine ix B H ?_;refine go ?_;refine LW.fl [0,1,5,6,41,45] fun e=>?_;refine go ?_;refine LW.l (Ldr.old w0 ag3 rfl (z 2 _ rfl)) (a.same _ g.1 g.2) rfl ?_;refine go ?_;rcases bh h with ⟨aB,h⟩ | ⟨aB,h⟩
           · refine gb h fun cF aQ h=>?_;obtain ⟨ce,cw,bw,hae,j,C,I,aD,A⟩:=d.idx aQ;cases hae;obtain ⟨b5,cn,b6,co,b7,cp,rfl,aM,bH,bI⟩:=aD;refine go ?_;refine ix C I ?_;refine go ?_;refine LW.l (Ldr.old w0 ag3 rfl (A 1 _ rfl)) (a.same _ j.1 j.2) rfl ?_;refine go ?_;rcases bh h with ⟨aC,h⟩ | ⟨aC,h⟩
             · refine go ?_;cases oi h;exact a.po [0]
             refine go ?_;refine ix C I ?_;refine go ?_;refine LW.l (Ldr.old w0 ag24 rfl (A 10 _ rfl)) (a.same _ j.1 j.2) rfl ?_;refine gb h fun cG aR h=>?_;refine go ?_;refine LW.c0 (W_s_l4Has aR rfl (a.rB aM)) a fun cB a0=>?_;refine go ?_;cases oi h;exact a0.po [0]
           refine gb h fun cH aS h=>?_;obtain ⟨cf,cx,bz,hae,y,aJ,aL,aE,aH⟩:=d.idx aS;cases hae;obtain ⟨b8,cq,b9,cr,ca,ct,rfl,aN,bJ,bK⟩:=aE;refine go ?_;refine ix aJ aL ?_;refine go ?_;refine LW.l (Ldr.old w0 ag24 rfl (aH 10 _ rfl)) (a.same _ y.1 y.2) rfl ?_;refine gb h fun cI aT h=>?_;refine go ?_;refine LW.c0 (W_s_l4Has aT rfl (a.rB aN)) a fun cC a2=>?_;refine go ?_;cases oi h;exact a2.po [0]
         refine go ?_;refine LW.fl [0,1,5,6,58,59,60] fun e=>?_;have ⟨cJ,aU,h⟩:=ob h;obtain ⟨bm,bM,a9,hae,n,X,Z,O,R⟩:=d.idx aU;cases hae;obtain ⟨bf,bo,bg,bp,bi,bq,rfl,ab,bb,bc⟩:=O;refine go ?_;refine ix X Z ?_;refine go ?_;refine LW.l (Ldr.old w0 ag24 rfl (R 10 _ rfl)) (a.same _ n.1 n.2) rfl ?_;refine gb h fun bV ad h=>?_;refine go ?_;refine LW.c0 (W_s_l4Has ad rfl (a.rB ab)) a fun bQ a3=>?_;refine go ?_;cases oi h;exact a3.po [0]
       refine go ?_;refine LW.fl [0,1,5,6,58,59,60] fun e=>?_;have ⟨bW,ae,h⟩:=ob h;obtain ⟨bn,bN,ba,rfl,p,Y,aa,⟨bj,br,bk,bs,bl,bt,rfl,ac,bd,be⟩,U⟩:=d.idx ae;refine go ?_;refine ix Y aa ?_;refine go ?_;refine LW.l (Ldr.old w0 ag24 rfl (U 10 _ rfl)) (a.same _ p.1 p.2) rfl ?_;refine gb h fun bX af h=>?_;refine go ?_;refine LW.c0 (W_s_l4Has af rfl (a.rB ac)) a fun bR ar=>?_;refine go ?_;cases oi h;exact ar.po [0]
     intro e bS q;have h:=aY;refine go ?_;refine ch h (fun K h=>?_) fun K h=>?_
     · refine gb h fun bY ah h=>?_;refine LW.app1 (M:=[]) (L:=[sl b c f.1]) (vs:=#[vI f.2]) (i:=0) sT24 rfl (by kernel_rfl) rfl rfl ah q rfl (fun w G hG=>by cases (show G=[] from hG);exact ⟨rfl,rfl⟩) rfl rfl ?_;intro bP ao ap bT au hf;refine go ?_;cases oi h;exact ⟨rfl,⟨ao,ap,au.po [0]⟩⟩
     refine go ?_;cases oi h;exact ⟨rfl,⟨b,c,q.po [0]⟩⟩
   refine go ?_;cases oi h;exact ⟨trivial,rfl,⟨b,c,a.po [0]⟩⟩
 rintro e bU ⟨b,c,hE,av⟩;obtain ⟨e,rfl⟩:=hE.out;have h:=aq;refine go ?_;cases h;exact And.intro trivial ⟨_,Res.one (resOne.t rfl),b,c,rfl,av.pk [0]⟩
theorem W_s_l6Live {w0 N n y r} (h:F_s_l6Live N n y=some r) {b g c} (i:g=n.length) (a:rb w0 b c n) :
    Ret Tryz.prog 66 #[vS b g c,vI y] w0 (fun v w=>v=.bool r∧St w0 [] w []):=by
 subst i;unfold F_s_l6Live at h;refine Ret.fn Tryz.func66 fun e=>?_;have j:=St.start w0;refine gb h fun H t h=>?_;refine LW.c0 (W_s_TreeOk t rfl (j.rB a)) j fun C k=>?_;refine go ?_;rcases bh h with ⟨o,h⟩ | ⟨o,h⟩
 · refine gb h fun I u h=>?_;refine go ?_;refine LW.c0 (W_s_l6Res u) k fun G d=>?_;refine go ?_;rcases bh h with ⟨p,h⟩ | ⟨p,h⟩
   · refine gb h fun J x h=>?_;obtain ⟨A,B,z,rfl,f,q,s,rfl,m⟩:=a.idx x;refine go ?_;refine ix q s ?_;refine go ?_;refine LW.l (Ldr.old w0 ag4 rfl (m 0 _ rfl)) (d.same _ f.1 f.2) rfl ?_;refine go ?_;cases h;exact fi d
   refine go ?_;cases h;exact fi d
 refine go ?_;cases h;exact fi k
theorem W_s_AmtSub {w0 N a c r} (h:F_s_AmtSub N a c=some r) :
    Ret Tryz.prog 294 #[.agg #[vI a.pages,vI a.rent,vI a.cpu],.agg #[vI c.pages,vI c.rent,vI c.cpu]] w0 (fun v w=>v=.tuple #[.agg #[vI r.1.pages,vI r.1.rent,vI r.1.cpu],.bool r.2]∧St w0 [] w []):=by
 unfold F_s_AmtSub at h;refine Ret.fn Tryz.func294 fun e=>?_;have i:=St.start w0;refine go ?_;refine LW.bo i fun q y j=>?_;refine LW.bo j fun s z k=>?_;refine LW.al k fun x A l=>?_;refine gb h fun C n h=>?_;refine LW.c0 (W_s_AmtFits n) l fun B d=>?_;refine go ?_;refine ch h (fun m h=>?_) fun m h=>?_
 · refine go ?_;refine LW.st d 0 fun o f=>?_;refine go ?_;cases h;exact And.intro trivial ⟨_,Res.two (resOne.b f 0 rfl ag35 rfl rfl) (resOne.t rfl),rfl,f.pk []⟩
 refine go ?_;refine LW.u (Pur.build (vs:=[(0,vI (IntKind.i64.wrap (a.pages - c.pages))),(1,vI (IntKind.i64.wrap (a.rent - c.rent))),(2,vI (IntKind.i64.wrap (a.cpu - c.cpu)))]) (cs:=#[vI (IntKind.i64.wrap (a.pages - c.pages)),vI (IntKind.i64.wrap (a.rent - c.rent)),vI (IntKind.i64.wrap (a.cpu - c.cpu))]) rfl (by kernel_rfl)) rfl ?_;refine LW.st d 0 fun p g=>?_;refine go ?_;cases h;exact And.intro trivial ⟨_,Res.two (resOne.b g 0 rfl ag35 rfl rfl) (resOne.t rfl),rfl,g.pk []⟩
theorem W_s_ArenaPut {w0 N a1 b r} (h:F_s_ArenaPut N a1 b=some r) {ab au ac} (ay:au=a1.length) (c:rb w0 ab ac a1) {d Y j} (ai:Y=b.links.length) (ao:rb w0 d j b.links) {f Z k} (aj:Z=b.data.length) (ap:rb w0 f k b.data) {g aa m} (ak:aa=b.queue.length) (aq:rb w0 g m b.queue) :
    Ret Tryz.prog 210 #[vS ab au ac,.agg #[vI b.gen,vI b.kind,vI b.box,vI b.res,vI b.til,vI b.pages,vI b.wait,vI b.got,vI b.ran,.bool b.mark,vS d Y j,vS f Z k,vS g aa m]] w0 (fun v w=>∃ C O,v=.tuple #[vS C r.1.length O,vI r.2]∧St w0 [] w [sl C O r.1]):=by
 subst ay ai aj ak;unfold F_s_ArenaPut at h;refine Ret.fn Tryz.func210 fun e=>?_;have a9:=St.start w0;refine go ?_;refine LW.bo a9 fun a6 bZ aB=>?_;refine gb h fun av bd h=>?_;refine LW.cl (W_s_l8Copy bd rfl (aB.rB c)) ?_;rintro _ b0 ⟨a2,V,rfl,hs⟩;have aC:=aB.add hs;refine gb h fun b2 be h=>?_;refine LW.c0 (W_s_ArenaOk be rfl (aC.rB c)) aC fun b1 aD=>?_;refine go ?_;refine ch h (fun bc h=>?_) fun bc h=>?_
 · refine go ?_;cases h;exact And.intro trivial ⟨_,Res.two (resOne.t rfl) (resOne.t rfl),a2,V,rfl,aD.pk [0]⟩
 refine go ?_;obtain ⟨aF,aR,aA⟩:=ob h;refine CW.mono (CW.lx [0,3,6] [0,1] [6] 0 (fun U=>[(7,vI U)]) (fun r x e wb=>x=.ret∧∃ u,u=r∧∃ v,Res Tryz.prog Tryz.f210.results e wb v∧∃ C O,v=.tuple #[vS C u.1.length O,vI u.2]∧St w0 [] wb [sl C O u.1]) aD aR (hb:=?_)) ?_
 · intro U e bL o n h;refine go ?_;refine CW.fl [0,3,6,7,18] fun e=>?_;refine ch h (fun aJ h=>?_) fun aJ h=>?_
   · refine gs ?_;refine CW.block ?_;refine gs ?_;obtain ⟨bf,aO,a7⟩:=ob h;refine CW.jn [0,3,6,7] [0,1] [(34,.bool bf)] n (h1:=?_) (h2:=?_)
     · have h:=aO;refine gb h fun bW aW h=>?_;obtain ⟨bA,bI,bj,rfl,s,am,an,⟨bs,bC,bt,bD,bu,bE,rfl,bl,bm,bn⟩,ah⟩:=c.idx aW;refine ix am an ?_;refine go ?_;refine LW.l (Ldr.old w0 ag3 rfl (ah 1 _ rfl)) (n.same _ s.1 s.2) rfl ?_;refine go ?_;rcases bh h with ⟨aK,h⟩ | ⟨aK,h⟩
       · refine go ?_;cases oi h;exact n.po [0,1]
       refine go ?_;refine ix am an ?_;refine go ?_;refine LW.l (Ldr.old w0 ag3 rfl (ah 0 _ rfl)) (n.same _ s.1 s.2) rfl ?_;refine go ?_;cases oi h;exact n.po [0,1]
     intro e bM R;have h:=a7;refine go ?_;refine ch h (fun aL h=>?_) fun aL h=>?_
     · refine go ?_;cases oi h;exact ⟨rfl,(R.po [0,1])⟩
     refine gb h fun a aX h=>?_;refine LW.cl (W_s_l8Obj aX rfl (R.rB ao) rfl (R.rB ap) rfl (R.rB aq)) ?_;rintro _ bN ⟨y,I,A,J,B,K,rfl,hs⟩;have ba:=R.add hs;refine LW.al ba fun az bO bb=>?_;refine LW.st bb 0 fun bP aE=>?_;refine gb h fun aw aY h=>?_;obtain ⟨bB,bJ,bk,rfl,af,aS,aU,⟨bv,bF,bw,bG,bz,bH,rfl,bp,bq,br⟩,aQ⟩:=c.idx aY;refine ix aS aU ?_;refine go ?_;refine LW.l (Ldr.old w0 ag3 rfl (aQ 0 _ rfl)) (aE.same _ af.1 af.2) rfl ?_;refine go ?_;refine LW.st aE 0 fun bQ ad=>?_;refine gb h fun bi ar h=>?_;obtain ⟨H,p,hae,aT,aV⟩:=ad.ownIdx (α:=DObj) (i:=4) rfl ar;subst hae;refine ix aT aV ?_;have aG:=ad.pk (M:=[sl y I a.links,sl A J a.data,sl B K a.queue]++[bx az 44 [vI (IntKind.i64.wrap (aw.gen+1)),vI a.kind,vI a.box,vI a.res,vI a.til,vI a.pages,vI a.wait,vI a.got,vI a.ran,.bool a.mark,vS y a.links.length I,vS A a.data.length J,vS B a.queue.length K],sl (some ⟨H,p,none⟩) V av,bx a6 44 [vI b.gen,vI b.kind,vI b.box,vI b.res,vI b.til,vI b.pages,vI b.wait,vI b.got,vI b.ran,.bool b.mark,vS d b.links.length j,vS f b.data.length k,vS g b.queue.length m]]) [1,2,3,0,4,5];have ⟨ax,X,h⟩:=ob h;refine LW.stE (M:=[sl y I a.links,sl A J a.data,sl B K a.queue]) (L:=[bx az 44 [vI (IntKind.i64.wrap (aw.gen+1)),vI a.kind,vI a.box,vI a.res,vI a.til,vI a.pages,vI a.wait,vI a.got,vI a.ran,.bool a.mark,vS y a.links.length I,vS A a.data.length J,vS B a.queue.length K],sl (some ⟨H,p,none⟩) V av,bx a6 44 [vI b.gen,vI b.kind,vI b.box,vI b.res,vI b.til,vI b.pages,vI b.wait,vI b.got,vI b.ran,.bool b.mark,vS d b.links.length j,vS f b.data.length k,vS g b.queue.length m]]) (z:=bi) (z':=(DObj.mk (IntKind.i64.wrap (aw.gen+1)) a.kind a.box a.res a.til a.pages a.wait a.got a.ran a.mark a.links a.data a.queue)) (o:=0) aG (i:=1) rfl ar ag44 rfl (by show _=p+(U:Int).toNat * 13+0;omega) rfl rfl rfl rfl (whole (fun w G hG=>⟨y,I,A,J,B,K,rfl,hG⟩)) ?_;intro bR q hf;rw [oi X] at q;refine gs ?_;obtain ⟨bg,aP,a8⟩:=ob h;refine CW.jn [0,6,7] [1] [(55,.bool bg)] q (h1:=?_) (h2:=?_)
     · have h:=aP;refine gb h fun bX aZ h=>?_;refine LW.c0 (W_s_ArenaOk aZ (show av.length=ax.length from (len_set (oi X))) (q.rI 1 rfl)) q fun bS ae=>?_;refine go ?_;rcases bh h with ⟨aM,h⟩ | ⟨aM,h⟩
       · refine go ?_;cases oi h;exact ae.po [1]
       refine go ?_;cases oi h;exact ae.po [1]
     intro e bT W;have h:=a8;refine go ?_;refine CW.fl [0,6,7,55] fun e=>?_;refine ch h (fun aN h=>?_) fun aN h=>?_
     · refine gb h fun bY a0 h=>?_;refine LW.cl (W_s_l8Copy a0 rfl (W.rB c)) ?_;rintro _ bU ⟨a3,a5,rfl,hs⟩;have aH:=W.add hs;refine go ?_;cases oi h;exact ⟨trivial,rfl,_,rfl,⟨_,Res.two (resOne.t rfl) (resOne.t rfl),a3,a5,rfl,aH.pk [0]⟩⟩
     refine go ?_;replace h:=oi h;subst h;exact ⟨trivial,rfl,_,rfl,⟨_,Res.two (resOne.t rfl) (resOne.t rfl),(some ⟨H,p,none⟩),V,(show (.tuple #[vS (some ⟨H,p,none⟩) av.length V,vI U]:Value)=.tuple #[vS (some ⟨H,p,none⟩) ax.length V,vI U] by rw [show av.length=ax.length from (len_set (oi X))]),W.pk [0]⟩⟩
   refine go ?_;cases oi h;exact ⟨trivial,rfl,(n.po [0,1])⟩
 intro x e bV hM;rcases aF with aF | bK
 · obtain ⟨rfl,hM⟩:=hM;obtain ⟨hE,aI⟩:=hM;obtain ⟨e,rfl⟩:=hE.out;have h:=aA;refine go ?_;cases h;exact And.intro trivial ⟨_,Res.two (resOne.t rfl) (resOne.t rfl),a2,V,rfl,aI.pk [0]⟩
 obtain ⟨rfl,u,rfl,hM⟩:=hM;cases aA;exact And.intro trivial hM
theorem W_i_copyPart {w0 N a r} (h:F_i_copyPart N a=some r) {C Y L} (ae:Y=a.label.levels.length) (am:rb w0 C L a.label.levels) {G Z M} (af:Z=a.own.length) (an:rb w0 G M a.own) {H aa O} (ah:aa=a.tree.length) (ao:rb w0 H O a.tree) {I ab R} (ai:ab=a.heap.arena.length) (ap:rb w0 I R a.heap.arena) {J ac U} (aj:ac=a.heap.gc.grey.length) (aq:rb w0 J U a.heap.gc.grey) {K ad V} (ak:ad=a.taps.length) (ar:rb w0 K V a.taps) :
    Ret Tryz.prog 67 #[.agg #[vS C Y L,vS G Z M,vS H aa O,vS I ab R,vI a.heap.gc.phase,vI a.heap.gc.pos,vI a.heap.gc.round,vS J ac U,vS K ad V,vI a.next,vI a.want,vI a.spent.pages,vI a.spent.rent,vI a.spent.cpu,vI a.press,vI a.lost]] w0 (fun v w=>∃ j s, ∃ k t, ∃ n x, ∃ o y, ∃ p z, ∃ q A,v=.agg #[vS j r.label.levels.length s,vS k r.own.length t,vS n r.tree.length x,vS o r.heap.arena.length y,vI r.heap.gc.phase,vI r.heap.gc.pos,vI r.heap.gc.round,vS p r.heap.gc.grey.length z,vS q r.taps.length A,vI r.next,vI r.want,vI r.spent.pages,vI r.spent.rent,vI r.spent.cpu,vI r.press,vI r.lost]∧St w0 [] w [sl j s r.label.levels,sl k t r.own,sl n x r.tree,sl o y r.heap.arena,sl p z r.heap.gc.grey,sl q A r.taps]):=by
 subst ae af ah ai aj ak;unfold F_i_copyPart at h;refine Ret.fn Tryz.func67 fun e=>?_;have aN:=St.start w0;refine go ?_;refine LW.bo aN fun bc be aO=>?_;refine LW.al aO fun bd bf aP=>?_;refine go ?_;refine CW.draw (by kernel_rfl) ?_;have au:=aP.drew;refine gb h fun bi aR h=>?_;refine jO 2 ?_;refine LW.cl (W_i_copyLabel aR rfl (au.rB am)) ?_;rintro _ bg ⟨aT,aU,rfl,hs⟩;have f:=au.add hs;refine jN (.c (f.ce 2) (.c (f.ce 2) (.c (f.ce 2) (jW jZ)))) ?_;refine AW.u (i:=12) rfl (by kernel_rfl) rfl rfl (Pur.fa fo37_0 rfl) ?_;have ⟨bj,aS,h⟩:=ob h;refine jO 5 ?_;refine LW.cl (W_i_copyInts aS rfl (f.rB an)) ?_;rintro _ aX ⟨aD,aI,rfl,hs⟩;have g:=f.add hs;refine jN (.c (g.ce 3) (.c (g.ce 3) (jW (.c (g.ce 3) jZ)))) ?_;have ⟨a9,aA,h⟩:=ob h;refine jO 8 ?_;refine LW.cl (W_i_copyTree aA rfl (g.rB ao)) ?_;rintro _ aY ⟨aE,aJ,rfl,hs⟩;have d:=g.add hs;refine jN (.c (d.ce 4) (jW (.c (d.ce 4) (.c (d.ce 4) jZ)))) ?_;have ⟨ba,aB,h⟩:=ob h;refine jO 11 ?_;refine LW.cl (W_i_copyHeap aB rfl (d.rB ap) rfl (d.rB aq)) ?_;rintro _ aZ ⟨aF,aK,aG,aL,rfl,hs⟩;have B:=d.add hs;refine jN (jW (.c (B.ce 6) (.c (B.ce 6) (.c (B.ce 6) jZ)))) ?_;refine jO 13 ?_;refine LW.st B 6 fun a0 aQ=>?_;refine jN (jW (jW (jW (jW jZ)))) ?_;refine go ?_;refine jO 15 ?_;refine LW.st aQ 6 fun a1 av=>?_;refine jN (jW (jW (jW (jW jZ)))) ?_;refine go ?_;refine jO 17 ?_;refine LW.st av 6 fun a2 aw=>?_;refine jN (jW (jW (jW (jW jZ)))) ?_;refine go ?_;refine jO 19 ?_;refine LW.st aw 6 fun a3 ax=>?_;refine jN (jW (jW (jW (jW jZ)))) ?_
 refine go ?_;refine LW.bsl (α:=DTap) (vs:=[]) (cs:=#[]) (l:=([]:List DTap)) rfl (by kernel_rfl) rfl rfl rfl (fun w=>rfl) ax rfl ?_;intro aV aW a4 W hf;refine gb h fun bb aC h=>?_;refine LW.appN (l:=([]:List DTap)) (m:=a.taps) sT33 rfl rfl (W.rB ar) aC W (i:=0) rfl rfl ?_;intro aH aM a5 ay hf;refine go ?_;refine LW.st ay 7 fun a7 az=>?_;refine go ?_;refine LW.st az 6 fun a8 X=>?_;refine go ?_;cases h;exact And.intro trivial ⟨_,Res.one (resOne.b X 6 rfl ag37 rfl rfl),aT,aU,aD,aI,aE,aJ,aF,aK,aG,aL,aH,aM,rfl,X.pk [5,4,3,1,2,0]⟩
theorem W_i_TreeOk {w0 N m r} (h:F_i_TreeOk N m=some r) {c z d} (A:z=m.length) (g:rb w0 c d m) :
    Ret Tryz.prog 152 #[vS c z d] w0 (fun v w=>v=.bool r∧St w0 [] w []):=by
 subst A;unfold F_i_TreeOk at h;refine Ret.fn Tryz.func152 fun e=>?_;have b:=St.start w0;refine gs ?_;refine CW.region ?_;refine gs ?_;obtain ⟨ay,ar,h2⟩:=ob h;refine CW.jn [0] [] [(22,.bool ay)] b (h1:=?_) (h2:=?_)
 · have h:=ar;refine go ?_;rcases bh h with ⟨aq,h⟩ | ⟨aq,h⟩
   · refine go ?_;cases oi h;exact b.po []
   refine gb h fun aX au h=>?_;obtain ⟨aV,aW,aA,rfl,f,G,H,rfl,y⟩:=g.idx au;refine go ?_;refine ix G H ?_;refine go ?_;refine LW.l (Ldr.old w0 ag4 rfl (y 0 _ rfl)) (b.same _ f.1 f.2) rfl ?_;refine go ?_;rcases bh h with ⟨O,h⟩ | ⟨O,h⟩
   · refine go ?_;cases oi h;exact b.po []
   refine go ?_;refine ix G H ?_;refine go ?_;refine LW.l (Ldr.old w0 ag3 rfl (y 1 _ rfl)) (b.same _ f.1 f.2) rfl ?_;refine go ?_;cases oi h;exact b.po []
 intro e aE C;have h:=h2;refine go ?_;refine ch h (fun R h=>?_) fun R h=>?_
 · refine go ?_;cases h;exact fi C
 refine go ?_;refine LW.u (Pur.build (vs:=[]) (cs:=#[vI 0,vI 0,vI 0]) rfl (by kernel_rfl)) rfl ?_;refine LW.al C fun i aF am=>?_;refine LW.st am 0 fun aG an=>?_;refine go ?_;obtain ⟨I,ab,B⟩:=ob h;refine CW.it ab (fun a e wb=>En e [(0,vS c m.length d),(3,.pointer (some ⟨i,0,none⟩)),(24,vS c m.length d),(25,vI (m.length:Int)),(26,vI a.1)]∧St w0 [] wb [bx i 35 [vI a.2.1,vI a.2.2.1,vI a.2.2.2]]) (fun o x e wb=>match o with | .inl a=>x=.exit 0∧En e [(3,.pointer (some ⟨i,0,none⟩))]∧St w0 [] wb [bx i 35 [vI a.2.1,vI a.2.2.1,vI a.2.2.2]] | .inr r=>x=.ret∧∃ u,u=r∧∃ v,Res Tryz.prog Tryz.f152.results e wb v∧v=.bool u∧St w0 [] wb []) ?_ (an.po [0]) ?_
 · intro a e aH o hM h;obtain ⟨hE,p⟩:=hM;obtain ⟨e,rfl⟩:=hE.out;refine go ?_;refine ch h (fun U h=>?_) fun U h=>?_
   · refine gb h fun aw ae h=>?_;obtain ⟨az,aC,ax,rfl,s,ac,ad,rfl,aa⟩:=g.idx ae;refine ix ac ad ?_;refine LW.l (Ldr.oldN w0 ag46 rfl rfl (fun j u hu=>aa j u hu)) (p.same _ s.1 s.2) rfl ?_;refine LW.al p fun aB aI ao=>?_;refine go ?_;refine LW.st ao 0 fun aJ k=>?_;refine go ?_;refine CW.fl [0,3,4,5,24,25,26,33] fun e=>?_;refine ch h (fun V h=>?_) fun V h=>?_
     · refine go ?_;refine LW.u (Pur.build (vs:=[]) (cs:=#[.bool false,vI 0,vI 0,vI 0,vI 0]) rfl (by kernel_rfl)) rfl ?_;refine LW.u (Pur.ane eg46 rfl rfl (fun w=>eq46 aw (DRes.mk false 0 (DAmt.mk 0 0 0)) w)) rfl ?_;refine go ?_;refine ch h (fun W h=>?_) fun W h=>?_
       · refine go ?_;cases oi h;exact ⟨trivial,rfl,_,rfl,⟨_,Res.one (resOne.t rfl),rfl,k.pk []⟩⟩
       refine go ?_;cases oi h;exact ⟨rfl,(k.po [1])⟩
     refine gs ?_;obtain ⟨av,Z,ak⟩:=ob h;refine CW.jn [0,3,5,24,25,26] [0,1] [(46,.bool av)] k (h1:=?_) (h2:=?_)
     · have h:=Z;refine gb h fun aR af h=>?_;refine LW.c0 (W_i_AmtOk af) k fun aK q=>?_;refine go ?_;rcases bh h with ⟨X,h⟩ | ⟨X,h⟩
       · refine go ?_;cases oi h;exact q.po [0,1]
       refine gb h fun aS ah h=>?_;refine go ?_;refine LW.c0 (W_i_leadsUp ah rfl (q.rB g)) q fun aL ap=>?_;refine go ?_;cases oi h;exact ap.po [0,1]
     intro e aM n;have h:=ak;refine go ?_;refine ch h (fun Y h=>?_) fun Y h=>?_
     · refine go ?_;cases oi h;exact ⟨trivial,rfl,_,rfl,⟨_,Res.one (resOne.t rfl),rfl,n.pk []⟩⟩
     refine gb h fun aT ai h=>?_;refine LW.c0 (W_i_sumOf ai) n fun aN J=>?_;refine LW.st J 1 fun aO K=>?_;refine go ?_;cases oi h;exact ⟨rfl,(K.po [1])⟩
   refine go ?_;cases oi h;exact ⟨trivial,rfl,(p.po [0])⟩
 intro x e aP hM;rcases I with I | aD
 · obtain ⟨rfl,hM⟩:=hM;obtain ⟨hE,L⟩:=hM;obtain ⟨e,rfl⟩:=hE.out;have h:=B;refine gb h fun aU aj h=>?_;refine LW.c0 (W_i_AmtOk aj) L fun aQ M=>?_;refine go ?_;cases h;exact fi M
 obtain ⟨rfl,u,rfl,hM⟩:=hM;cases B;exact And.intro trivial hM
theorem W_i_ArenaOk {w0 N aM r} (h:F_i_ArenaOk N aM=some r) {m H n} (M:H=aM.length) (c:rb w0 m n aM) :
    Ret Tryz.prog 223 #[vS m H n] w0 (fun v w=>v=.bool r∧St w0 [] w []):=by
 subst M;unfold F_i_ArenaOk at h;refine Ret.fn Tryz.func223 fun e=>?_;have b:=St.start w0;refine gs ?_;refine CW.region ?_;refine gs ?_;obtain ⟨be,aR,h2⟩:=ob h;refine CW.jn [0] [] [(30,.bool be)] b (h1:=?_) (h2:=?_)
 · have h:=aR;refine go ?_;rcases bh h with ⟨aQ,h⟩ | ⟨aQ,h⟩
   · refine go ?_;cases oi h;exact b.po []
   refine gb h fun b3 aS h=>?_;obtain ⟨b1,b2,bJ,rfl,a,B,C,⟨bl,bA,bm,bB,bn,bC,rfl,a8,a9,ba⟩,i⟩:=c.idx aS;refine go ?_;refine ix B C ?_;refine go ?_;refine LW.l (Ldr.old w0 ag3 rfl (i 1 _ rfl)) (b.same _ a.1 a.2) rfl ?_;refine go ?_;rcases bh h with ⟨ab,h⟩ | ⟨ab,h⟩
   · refine go ?_;cases oi h;exact b.po []
   refine go ?_;refine ix B C ?_;refine go ?_;refine LW.l (Ldr.old w0 ag3 rfl (i 2 _ rfl)) (b.same _ a.1 a.2) rfl ?_;refine go ?_;rcases bh h with ⟨ac,h⟩ | ⟨ac,h⟩
   · refine go ?_;cases oi h;exact b.po []
   refine go ?_;refine ix B C ?_;refine go ?_;refine LW.fl [0,24,27] fun e=>?_;refine go ?_;refine LW.l (Ldr.old w0 ag3 rfl (i 4 _ rfl)) (b.same _ a.1 a.2) rfl ?_;refine go ?_;cases oi h;exact b.po []
 intro e bP U;have h:=h2;refine go ?_;refine ch h (fun ad h=>?_) fun ad h=>?_
 · refine go ?_;cases h;exact fi U
 refine go ?_;obtain ⟨J,R,q⟩:=ob h;refine CW.mono (CW.lx [0,31,32] [] [] 0 (fun X=>[(33,vI X)]) (RT Tryz.prog Tryz.f223.results (fun u=>.bool u) w0 []) U R (hb:=?_)) ?_
 · intro X e bQ o s h;refine go ?_;refine ch h (fun ae h=>?_) fun ae h=>?_
   · refine gb h fun bW aH h=>?_;obtain ⟨bu,bL,a4,rfl,y,ax,aB,⟨bo,bD,bp,bE,bq,bF,rfl,G,aF,aG⟩,au⟩:=c.idx aH;refine ix ax aB ?_;refine LW.l (Ldr.oldN w0 ag44 rfl rfl (fun j u hu=>au j u hu)) (s.same _ y.1 y.2) rfl ?_;refine LW.al s fun bK bR aP=>?_;refine go ?_;refine LW.st aP 0 fun bS g=>?_;refine gs ?_;obtain ⟨aT,aq,aN⟩:=ob h;refine CW.jn [0,4,31,32,33] [0] [(63,.bool aT)] g (h1:=?_) (h2:=?_)
     · have h:=aq;refine gb h fun bX aI h=>?_;refine LW.c0 (W_i_ObjOk aI rfl (g.rB G) rfl (g.rB aF) rfl (g.rB aG)) g fun bT d=>?_;refine go ?_;rcases bh h with ⟨af,h⟩ | ⟨af,h⟩
       · refine go ?_;cases oi h;exact d.po [0]
       refine go ?_;rcases bh h with ⟨ah,h⟩ | ⟨ah,h⟩
       · refine go ?_;refine LW.fl [0,4,31,32,33,41,49] fun e=>?_;rcases bh h with ⟨ai,h⟩ | ⟨ai,h⟩
         · refine go ?_;rcases bh h with ⟨aj,h⟩ | ⟨aj,h⟩
           · refine gb h fun bY aJ h=>?_;obtain ⟨bv,bM,a5,hae,z,ay,aC,ao,av⟩:=c.idx aJ;cases hae;obtain ⟨br,bG,bs,bH,bt,bI,rfl,bb,bc,bd⟩:=ao;refine go ?_;refine ix ay aC ?_;refine go ?_;refine LW.l (Ldr.old w0 ag3 rfl (av 1 _ rfl)) (d.same _ z.1 z.2) rfl ?_;refine go ?_;cases oi h;exact d.po [0]
           refine go ?_;cases oi h;exact d.po [0]
         refine go ?_;cases oi h;exact d.po [0]
       refine go ?_;cases oi h;exact d.po [0]
     intro e bU V;have h:=aN;refine go ?_;refine ch h (fun ak h=>?_) fun ak h=>?_
     · refine go ?_;cases oi h;exact ⟨trivial,rfl,_,rfl,⟨_,Res.one (resOne.t rfl),rfl,V.pk []⟩⟩
     refine go ?_;obtain ⟨I,O,p⟩:=ob h;refine CW.mono (CW.lx [0,31,32,33,65,66] [] [0,31,32,33] 2 (fun Y=>[(67,vI Y)]) (RT Tryz.prog Tryz.f223.results (fun u=>.bool u) w0 []) V O (hb:=?_)) ?_
     · intro Y e bV o f h;refine go ?_;refine CW.fl [0,31,32,33,65,66,67,68] fun e=>?_;refine ch h (fun am h=>?_) fun am h=>?_
       · refine gb h fun bZ aK h=>?_;obtain ⟨bw,bN,a6,rfl,A,az,aD,rfl,aw⟩:=G.idx aK;refine ix az aD ?_;refine LW.l (Ldr.old w0 ag3 rfl (aw 0 _ rfl)) (f.same _ A.1 A.2) rfl ?_;refine gs ?_;obtain ⟨aU,ar,aO⟩:=ob h;refine CW.jn [0,31,32,33,65,66,67] [] [(80,.bool aU)] f (h1:=?_) (h2:=?_)
         · have h:=ar;refine go ?_;rcases bh h with ⟨an,h⟩ | ⟨an,h⟩
           · refine gb h fun b0 aL h=>?_;obtain ⟨bz,bO,a7,hae,k,aA,aE,ap,L⟩:=c.idx aL;cases hae;obtain ⟨aY,a1,aZ,a2,a0,a3,rfl,aV,aW,aX⟩:=ap;refine go ?_;refine ix aA aE ?_;refine go ?_;refine LW.l (Ldr.old w0 ag3 rfl (L 1 _ rfl)) (f.same _ k.1 k.2) rfl ?_;refine go ?_;cases oi h;exact f.po []
           refine go ?_;cases oi h;exact f.po []
         intro e bi W;have h:=aO;refine go ?_;refine ch h (fun K h=>?_) fun K h=>?_
         · refine go ?_;cases oi h;exact ⟨trivial,rfl,_,rfl,⟨_,Res.one (resOne.t rfl),rfl,W.pk []⟩⟩
         refine go ?_;cases oi h;exact ⟨rfl,(W.po [])⟩
       refine go ?_;cases oi h;exact ⟨trivial,rfl,(f.po [])⟩
     intro x e bj hM;rcases I with I | bf
     · obtain ⟨rfl,hM⟩:=hM;obtain ⟨hE,Z⟩:=hM;obtain ⟨e,rfl⟩:=hE.out;have h:=p;refine go ?_;cases oi h;exact ⟨rfl,(Z.po [])⟩
     obtain ⟨rfl,u,rfl,hM⟩:=hM;cases p;exact ⟨trivial,rfl,_,rfl,hM⟩
   refine go ?_;cases oi h;exact ⟨trivial,rfl,⟨trivial,s.pk []⟩⟩
 intro x e bk hM;rcases J with J | bg
 · obtain ⟨rfl,hM⟩:=hM;obtain ⟨hE,aa⟩:=hM;obtain ⟨e,rfl⟩:=hE.out;rw [show e=upds e [] from rfl];have h:=q;refine go ?_;cases h;exact fi aa
 obtain ⟨rfl,u,rfl,hM⟩:=hM;cases q;exact And.intro trivial hM
theorem W_s_PartOk {w0 N a r} (h:F_s_PartOk N a=some r) {d L n} (W:L=a.label.levels.length) (ac:rb w0 d n a.label.levels) {f M p} (X:M=a.own.length) (ad:rb w0 f p a.own) {g O q} (Y:O=a.tree.length) (ae:rb w0 g q a.tree) {i R s} (Z:R=a.heap.arena.length) (af:rb w0 i s a.heap.arena) {k U y} (aa:U=a.heap.gc.grey.length) (ah:rb w0 k y a.heap.gc.grey) {m V z} (ab:V=a.taps.length) (ai:rb w0 m z a.taps) :
    Ret Tryz.prog 18 #[.agg #[vS d L n,vS f M p,vS g O q,vS i R s,vI a.heap.gc.phase,vI a.heap.gc.pos,vI a.heap.gc.round,vS k U y,vS m V z,vI a.next,vI a.want,vI a.spent.pages,vI a.spent.rent,vI a.spent.cpu,vI a.press,vI a.lost]] w0 (fun v w=>v=.bool r∧St w0 [] w []):=by
 subst W X Y Z aa ab;unfold F_s_PartOk at h;refine Ret.fn Tryz.func18 fun e=>?_;have aS:=St.start w0;refine go ?_;refine LW.bo aS fun bp bq G=>?_;refine gs ?_;obtain ⟨aZ,aU,aY⟩:=ob h;refine CW.jn [1] [0] [(61,.bool aZ)] G (h1:=?_) (h2:=?_)
 · have h:=aU;refine gb h fun bt aV h=>?_;refine LW.c0 (W_s_LabelOk aV rfl (G.rB ac)) G fun br H=>?_;refine go ?_;rcases bh h with ⟨aT,h⟩ | ⟨aT,h⟩
   · refine go ?_;cases oi h;exact H.po [0]
   refine gb h fun bu aW h=>?_;refine go ?_;refine LW.c0 (W_s_OwnOk aW rfl (H.rB ad)) H fun bs I=>?_;refine go ?_;rcases bh h with ⟨au,h⟩ | ⟨au,h⟩
   · refine go ?_;cases oi h;exact I.po [0]
   refine gb h fun be aJ h=>?_;refine go ?_;refine LW.c0 (W_s_TreeOk aJ rfl (I.rB ae)) I fun a3 c=>?_;refine go ?_;rcases bh h with ⟨av,h⟩ | ⟨av,h⟩
   · refine go ?_;cases oi h;exact c.po [0]
   refine gb h fun bf aK h=>?_;refine go ?_;refine LW.c0 (W_s_HeapOk aK rfl (c.rB af) rfl (c.rB ah)) c fun a4 J=>?_;refine go ?_;refine LW.fl [1,26] fun e=>?_;rcases bh h with ⟨aw,h⟩ | ⟨aw,h⟩
   · refine go ?_;cases oi h;exact J.po [0]
   refine go ?_;rcases bh h with ⟨ax,h⟩ | ⟨ax,h⟩
   · refine go ?_;cases oi h;exact J.po [0]
   refine gb h fun bg aL h=>?_;refine go ?_;refine LW.c0 (W_s_l8Slot aL) J fun a5 ak=>?_;refine go ?_;rcases bh h with ⟨ay,h⟩ | ⟨ay,h⟩
   · refine go ?_;cases oi h;exact ak.po [0]
   refine gb h fun bi aM h=>?_;refine go ?_;refine LW.c0 (W_s_l1In aM) ak fun a6 am=>?_;refine go ?_;rcases bh h with ⟨az,h⟩ | ⟨az,h⟩
   · refine go ?_;cases oi h;exact am.po [0]
   refine gb h fun bj aN h=>?_;refine go ?_;refine LW.c0 (W_s_AmtOk aN) am fun a7 an=>?_;refine go ?_;refine LW.fl [1,50] fun e=>?_;rcases bh h with ⟨aA,h⟩ | ⟨aA,h⟩
   · refine go ?_;cases oi h;exact an.po [0]
   refine gb h fun bk aO h=>?_;refine go ?_;refine LW.c0 (W_s_l1In aO) an fun a8 A=>?_;refine go ?_;rcases bh h with ⟨aB,h⟩ | ⟨aB,h⟩
   · refine go ?_;cases oi h;exact A.po [0]
   refine gb h fun bl aP h=>?_;refine go ?_;refine LW.c0 (W_s_l1In aP) A fun a9 aq=>?_;refine go ?_;cases oi h;exact aq.po [0]
 intro e ba B;have h:=aY;refine go ?_;refine ch h (fun aC h=>?_) fun aC h=>?_
 · refine go ?_;cases h;exact fi B
 refine go ?_;obtain ⟨ao,aG,aj⟩:=ob h;refine CW.mono (CW.lx [1] [0] [] 0 (fun ap=>[(3,vI ap)]) (RT Tryz.prog Tryz.f18.results (fun u=>.bool u) w0 []) B aG (hb:=?_)) ?_
 · intro ap e bb o b h;refine go ?_;refine ch h (fun aD h=>?_) fun aD h=>?_
   · refine gb h fun bm aQ h=>?_;obtain ⟨a0,a1,aX,rfl,K,aH,aI,rfl,aF⟩:=ai.idx aQ;refine ix aH aI ?_;refine LW.l (Ldr.oldN w0 ag126 rfl rfl (fun j u hu=>aF j u hu)) (b.same _ K.1 K.2) rfl ?_;have ⟨bn,aR,h⟩:=ob h;refine LW.c0 (W_s_TapOk aR) b fun bc C=>?_;refine go ?_;refine CW.fl [1,3,75] fun e=>?_;refine ch h (fun aE h=>?_) fun aE h=>?_
     · refine go ?_;cases oi h;exact ⟨trivial,rfl,_,rfl,⟨_,Res.one (resOne.t rfl),rfl,C.pk []⟩⟩
     refine go ?_;cases oi h;exact ⟨rfl,(C.po [0])⟩
   refine go ?_;cases oi h;exact ⟨trivial,rfl,⟨trivial,b.pk [0]⟩⟩
 intro x e bd hM;rcases ao with ao | a2
 · obtain ⟨rfl,hM⟩:=hM;obtain ⟨hE,ar⟩:=hM;obtain ⟨e,rfl⟩:=hE.out;rw [show e=upds e [] from rfl];have h:=aj;refine go ?_;cases h;exact fi ar
 obtain ⟨rfl,u,rfl,hM⟩:=hM;cases aj;exact And.intro trivial hM
theorem W_s_Reach {w0 N H Z r} (h:F_s_Reach N H Z=some r) {f Y g} (ac:Y=H.length) (d:rb w0 f g H) :
    Ret Tryz.prog 33 #[vS f Y g,vI Z] w0 (fun v w=>∃ an ap,v=vS an r.length ap∧St w0 [] w [sl an ap r]):=by
 subst ac;unfold F_s_Reach at h;refine Ret.fn Tryz.func33 fun e=>?_;have bj:=St.start w0;refine go ?_;refine LW.bsl (α:=Bool) (vs:=[]) (cs:=#[]) (l:=([]:List Bool)) rfl (by kernel_rfl) rfl rfl rfl (fun w=>rfl) bj rfl ?_;intro bs bv ct aq hf;refine gb h fun cv bn h=>?_;refine LW.c0 (W_s_ArenaOk bn rfl (aq.rB d)) aq fun cu ar=>?_;refine go ?_;refine ch h (fun bm h=>?_) fun bm h=>?_
 · refine go ?_;cases h;exact And.intro trivial ⟨_,Res.one (resOne.t rfl),bs,bv,rfl,ar.pk [0]⟩
 refine gb h fun br bo h=>?_;refine LW.mk sT71 rfl rfl bo ar rfl ?_;intro cr k cc au hf;refine gb h fun ck U h=>?_;obtain ⟨a,b,hae,aY,a3⟩:=au.ownIdx (α:=Bool) (i:=0) rfl U;subst hae;refine ix aY a3 ?_;have ⟨ax,V,h⟩:=ob h;refine LW.se 0 au 0 U V (hM:=whF) fun ce bk=>?_;refine go ?_;obtain ⟨bF,af,aB⟩:=ob h;refine CW.ie af 0 (fun n e wb=>En e [(0,vS f H.length g),(1,vI Z),(5,vS (some ⟨a,b,none⟩) n.1.length k),(6,vI n.2)]∧St w0 [] wb [sl (some ⟨a,b,none⟩) k n.1]) ?_ ⟨⟨rfl,rfl,(show (vS (some ⟨a,b,none⟩) br.length k:Value)=vS (some ⟨a,b,none⟩) ax.length k by rw [show br.length=ax.length from (len_set (oi V))]),rfl,trivial⟩,bk.pk [0]⟩ ?_
 · intro n e cf o hM h;obtain ⟨hE,av⟩:=hM;obtain ⟨e,rfl⟩:=hE.out;refine go ?_;refine CW.fl [0,1,5,6,19] fun e=>?_;refine ch h (fun aM h=>?_) fun aM h=>?_
   · refine go ?_;obtain ⟨bE,ae,aA⟩:=ob h;refine CW.ie ae 2 (fun x e wb=>En e [(0,vS f H.length g),(1,vI Z),(5,vS (some ⟨a,b,none⟩) x.1.length k),(6,vI n.2),(7,vI x.2)]∧St w0 [] wb [sl (some ⟨a,b,none⟩) k x.1]) ?_ (av.po [0]) ?_
     · intro x e bq o hM h;obtain ⟨hE,B⟩:=hM;obtain ⟨e,rfl⟩:=hE.out;refine go ?_;refine ch h (fun aN h=>?_) fun aN h=>?_
       · refine gs ?_;refine CW.block ?_;refine gs ?_;obtain ⟨bp,aU,bi⟩:=ob h;refine CW.jn [0,1,5,6,7] [0] [(44,.bool bp)] B (h1:=?_) (h2:=?_)
         · have h:=aU;refine gb h fun cm W h=>?_;obtain ⟨bV,b6,hae,aZ,a4⟩:=B.ownIdx (α:=Bool) (i:=0) rfl W;cases hae;refine ix aZ a4 ?_;obtain ⟨bN,s,m⟩:=B.freeze (α:=Bool) 0 rfl;obtain ⟨bW,b7,bw,hae,aL,_,_,aS,aV⟩:=s.rdF.idx W;cases hae;obtain rfl:=aS;refine LW.l (Ldr.old bq ag4 rfl (aV 0 _ rfl)) (m.zC 0 rfl aL) rfl ?_;refine go ?_;rcases bh h with ⟨aO,h⟩ | ⟨aO,h⟩
           · refine go ?_;have bl:=m.thaw (α:=Bool) 0 rfl s;cases oi h;exact bl.po [0]
           refine gb h fun cn bd h=>?_;obtain ⟨bX,b8,bz,rfl,J,a0,a5,⟨bP,b1,bQ,b2,bR,b3,rfl,a7,a9,ba⟩,aW⟩:=d.idx bd;refine go ?_;refine ix a0 a5 ?_;refine go ?_;refine LW.l (Ldr.oldN w0 ag44 rfl rfl (fun j u hu=>aW j u hu)) (m.same _ J.1 J.2) rfl ?_;refine gb h fun co be h=>?_;refine go ?_;refine LW.c0 (W_s_Expired be rfl (m.rB a7) rfl (m.rB a9) rfl (m.rB ba)) m fun cg I=>?_;refine go ?_;rcases bh h with ⟨aP,h⟩ | ⟨aP,h⟩
           · refine go ?_;have aC:=I.thaw (α:=Bool) 0 rfl s;cases oi h;exact aC.po [0]
           refine go ?_;have aD:=I.thaw (α:=Bool) 0 rfl s;cases oi h;exact aD.po [0]
         intro e ci y;have h:=bi;refine go ?_;refine ch h (fun aQ h=>?_) fun aQ h=>?_
         · refine go ?_;cases oi h;exact ⟨rfl,(y.po [0])⟩
         refine gb h fun ay bf h=>?_;refine LW.cl (W_s_Edges bf rfl (y.rB d)) ?_;rintro _ cj ⟨am,ao,rfl,hs⟩;have aE:=y.add hs;refine go ?_;obtain ⟨bD,ad,az⟩:=ob h;refine CW.ie ad 4 (fun p e wb=>En e [(0,vS f H.length g),(1,vI Z),(5,vS (some ⟨a,b,none⟩) p.1.length k),(6,vI n.2),(7,vI x.2),(8,vS am ay.length ao),(9,vI p.2)]∧St w0 [] wb [sl am ao ay,sl (some ⟨a,b,none⟩) k p.1]) ?_ (aE.po [0,1]) ?_
         · intro p e aw o hM h;obtain ⟨hE,z⟩:=hM;obtain ⟨e,rfl⟩:=hE.out;refine go ?_;refine CW.fl [0,1,5,6,7,8,9,51] fun e=>?_;refine ch h (fun aR h=>?_) fun aR h=>?_
           · refine gb h fun cp X h=>?_;obtain ⟨bY,b9,hae,O,R⟩:=z.ownIdx (α:=Int) (i:=0) rfl X;subst hae;refine ix O R ?_;obtain ⟨bO,A,c⟩:=z.freeze (α:=Int) 0 rfl;obtain ⟨bZ,ca,bA,hae,K,_,_,aT,M⟩:=A.rdF.idx X;cases hae;obtain rfl:=aT;refine LW.l (Ldr.old aw ag3 rfl (M 0 _ rfl)) (c.zC 0 rfl K) rfl ?_;have ⟨cq,bg,h⟩:=ob h;obtain ⟨b0,cb,bB,rfl,L,a2,a6,⟨bS,b4,bT,b5,bU,bu,rfl,bb,bc,aj⟩,aX⟩:=d.idx bg;refine ix a2 a6 ?_;refine LW.l (Ldr.oldN w0 ag44 rfl rfl (fun j u hu=>aX j u hu)) (c.same _ L.1 L.2) rfl ?_;refine gb h fun bL ak h=>?_;refine LW.c0 (W_s_Expired ak rfl (c.rB bb) rfl (c.rB bc) rfl (c.rB aj)) c fun bG q=>?_;refine go ?_;refine CW.fl [0,1,5,6,7,8,9,63] fun e=>?_;refine ch h (fun ab h=>?_) fun ab h=>?_
             · refine go ?_;refine ix O R ?_;refine LW.l (Ldr.old aw ag3 rfl (M 0 _ rfl)) (q.zC 0 rfl K) rfl ?_;have ⟨bM,C,h⟩:=ob h;obtain ⟨bt,bC,hae,ah,ai⟩:=q.ownIdx (α:=Bool) (i:=1) rfl C;cases hae;refine ix ah ai ?_;have ⟨aa,G,h⟩:=ob h;refine LW.se 0 q 1 C G (hM:=whF) fun bH aF=>?_;refine go ?_;replace h:=oi h;subst h;have aG:=aF.thaw (α:=Int) 0 rfl A;exact ⟨rfl,⟨⟨rfl,rfl,(show (vS (some ⟨a,b,none⟩) p.1.length k:Value)=vS (some ⟨a,b,none⟩) aa.length k by rw [show p.1.length=aa.length from (len_set (oi G))]),rfl,rfl,rfl,rfl,trivial⟩,aG.pk [0,1]⟩⟩
             refine go ?_;have aH:=q.thaw (α:=Int) 0 rfl A;cases oi h;exact ⟨rfl,(aH.po [0,1])⟩
           refine go ?_;cases oi h;exact ⟨trivial,rfl,(z.po [0,1])⟩
         rintro e bI ⟨hE,aI⟩;obtain ⟨e,rfl⟩:=hE.out;have h:=az;refine go ?_;cases oi h;exact ⟨rfl,(aI.po [1])⟩
       refine go ?_;cases oi h;exact ⟨trivial,rfl,(B.po [0])⟩
     rintro e bJ ⟨hE,aJ⟩;obtain ⟨e,rfl⟩:=hE.out;have h:=aA;refine go ?_;cases oi h;exact ⟨rfl,(aJ.po [0])⟩
   refine go ?_;cases oi h;exact ⟨trivial,rfl,(av.po [0])⟩
 rintro e bK ⟨hE,aK⟩;obtain ⟨e,rfl⟩:=hE.out;have h:=aB;refine go ?_;cases h;exact And.intro trivial ⟨_,Res.one (resOne.t rfl),(some ⟨a,b,none⟩),k,rfl,aK.pk [0]⟩
end Go.Kx
