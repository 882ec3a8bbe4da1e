/- Each call returns what the plain function says. Printed by drive.py. -/
import Derived.Test.YtikeaiogpfjdnaaGreatFa
import Derived.Test.YtikeaiogpfjdnaaGreatPu
import Derived.Test.YtikeaiogpfjdnaaGreatWa4
import Derived.Test.YtikeaiogpfjdnaaGreatWa5
import Derived.Test.YtikeaiogpfjdnaaGreatWa6
namespace Go.Kx
open Go Go.RowKit Go.Proofs
set_option maxRecDepth 10000
set_option maxHeartbeats 8000000
set_option linter.unusedVariables false
set_option linter.unusedSimpArgs false
theorem W_s_Held {w0 N a r} (h:F_s_Held N a=some r) {d H n} (O:H=a.label.levels.length) (aq:rb w0 d n a.label.levels) {f I p} (R:I=a.own.length) (ar:rb w0 f p a.own) {g J q} (U:J=a.tree.length) (au:rb w0 g q a.tree) {i K s} (V:K=a.heap.arena.length) (Y:rb w0 i s a.heap.arena) {k L t} (W:L=a.heap.gc.grey.length) (av:rb w0 k t a.heap.gc.grey) {m M y} (X:M=a.taps.length) (aw:rb w0 m y a.taps) :
    Ret Tryz.prog 35 #[.agg #[vS d H n,vS f I p,vS g J q,vS i K s,vI a.heap.gc.phase,vI a.heap.gc.pos,vI a.heap.gc.round,vS k L t,vS m M y,vI a.next,vI a.want,vI a.spent.pages,vI a.spent.rent,vI a.spent.cpu,vI a.press,vI a.lost]] w0 (fun v w=>v=vI r∧St w0 [] w []):=by
 subst O R U V W X;unfold F_s_Held at h;refine Ret.fn Tryz.func35 fun e=>?_;have aj:=St.start w0;refine go ?_;refine LW.bo aj fun aN aO ak=>?_;refine go ?_;obtain ⟨aI,aa,ai⟩:=ob h;refine CW.mono (CW.lb [1] [0] [3] 0 (fun ah=>[(3,vI ah.1),(4,vI ah.2)]) ak aa (hb:=?_)) ?_
 · intro ah e aP o z h;refine gs ?_;obtain ⟨az,ap,ay⟩:=ob h;refine CW.jn [1,3,4] [0] [(14,.bool az)] z (h1:=?_) (h2:=?_)
   · have h:=ap;refine go ?_;rcases bh h with ⟨an,h⟩ | ⟨an,h⟩
     · refine go ?_;cases oi h;exact z.po [0]
     refine go ?_;cases oi h;exact z.po [0]
   intro e aQ b;have h:=ay;refine go ?_;refine ch h (fun ao h=>?_) fun ao h=>?_
   · refine gb h fun aL ae h=>?_;obtain ⟨aD,aH,ax,rfl,c,C,G,⟨aA,aE,aB,aF,aC,aG,rfl,ab,ac,ad⟩,B⟩:=Y.idx ae;refine ix C G ?_;refine LW.l (Ldr.oldN w0 ag44 rfl rfl (fun j u hu=>B j u hu)) (b.same _ c.1 c.2) rfl ?_;have ⟨aM,af,h⟩:=ob h;refine LW.c0 (W_s_ObjOk af rfl (b.rB ab) rfl (b.rB ac) rfl (b.rB ad)) b fun aJ A=>?_;refine go ?_;refine ch h (fun Z h=>?_) fun Z h=>?_
     · refine go ?_;refine ix C G ?_;refine go ?_;refine LW.l (Ldr.old w0 ag3 rfl (B 5 _ rfl)) (A.same _ c.1 c.2) rfl ?_;refine go ?_;cases oi h;exact ⟨rfl,(A.po [0])⟩
     refine go ?_;cases oi h;exact ⟨rfl,(A.po [0])⟩
   refine go ?_;cases oi h;exact ⟨trivial,rfl,(b.po [0])⟩
 intro x e aK hM;obtain ⟨rfl,hM⟩:=hM;obtain ⟨hE,am⟩:=hM;obtain ⟨e,rfl⟩:=hE.out;have h:=ai;refine go ?_;cases h;exact fi am
theorem W_s_TreeSum {w0 N m r} (h:F_s_TreeSum N m=some r) {c g d} (i:g=m.length) (a:rb w0 c d m) :
    Ret Tryz.prog 65 #[vS c g d] w0 (fun v w=>v=.agg #[vI r.pages,vI r.rent,vI r.cpu]∧St w0 [] w []):=by
 subst i;unfold F_s_TreeSum at h;refine Ret.fn Tryz.func65 fun e=>?_;have n:=St.start w0;refine go ?_;refine LW.al n fun t x j=>?_;refine gb h fun C q h=>?_;refine LW.c0 (W_s_TreeOk q rfl (j.rB a)) j fun y f=>?_;refine go ?_;refine ch h (fun p h=>?_) fun p h=>?_
 · refine go ?_;refine LW.u (Pur.build (vs:=[]) (cs:=#[vI 0,vI 0,vI 0]) rfl (by kernel_rfl)) rfl ?_;refine LW.st f 0 fun z k=>?_;refine go ?_;cases h;exact And.intro trivial ⟨_,Res.one (resOne.b k 0 rfl ag35 rfl rfl),rfl,k.pk []⟩
 refine gb h fun G s h=>?_;refine LW.c0 (W_s_l6Sum s rfl (f.rB a)) f fun A o=>?_;refine LW.st o 0 fun B l=>?_;refine go ?_;cases h;exact And.intro trivial ⟨_,Res.one (resOne.b l 0 rfl ag35 rfl rfl),rfl,l.pk []⟩
theorem W_s_PartSum {w0 N a r} (h:F_s_PartSum N a=some r) {k C s} (L:C=a.label.levels.length) (W:rb w0 k s a.label.levels) {l G t} (M:G=a.own.length) (X:rb w0 l t a.own) {m H x} (O:H=a.tree.length) (g:rb w0 m x a.tree) {n I y} (R:I=a.heap.arena.length) (Y:rb w0 n y a.heap.arena) {o J z} (U:J=a.heap.gc.grey.length) (Z:rb w0 o z a.heap.gc.grey) {q K A} (V:K=a.taps.length) (aa:rb w0 q A a.taps) :
    Ret Tryz.prog 14 #[.agg #[vS k C s,vS l G t,vS m H x,vS n I y,vI a.heap.gc.phase,vI a.heap.gc.pos,vI a.heap.gc.round,vS o J z,vS q K A,vI a.next,vI a.want,vI a.spent.pages,vI a.spent.rent,vI a.spent.cpu,vI a.press,vI a.lost]] w0 (fun v w=>v=.agg #[vI r.pages,vI r.rent,vI r.cpu]∧St w0 [] w []):=by
 subst L M O R U V;unfold F_s_PartSum at h;refine Ret.fn Tryz.func14 fun e=>?_;have aj:=St.start w0;refine go ?_;refine LW.bo aj fun ax aA ak=>?_;refine LW.al ak fun ay aB ab=>?_;refine gb h fun j ap h=>?_;refine LW.c0 (W_s_TreeSum ap rfl (ab.rB g)) ab fun aC am=>?_;refine LW.al am fun az aD an=>?_;refine LW.st an 0 fun aE ao=>?_;refine gb h fun aw ah h=>?_;refine LW.c0 (W_s_AmtOk ah) ao fun aq ac=>?_;refine go ?_;refine ch h (fun af h=>?_) fun af h=>?_
 · refine go ?_;refine LW.st ac 1 fun ar ad=>?_;refine go ?_;cases h;exact And.intro trivial ⟨_,Res.one (resOne.b ad 1 rfl ag35 rfl rfl),rfl,ad.pk []⟩
 refine go ?_;refine CW.draw (by kernel_rfl) ?_;have f:=ac.drew;refine gb h fun ae ai h=>?_;refine jO 3 ?_;refine LW.cl (W_s_Held ai rfl (f.rB W) rfl (f.rB X) rfl (f.rB g) rfl (f.rB Y) rfl (f.rB Z) rfl (f.rB aa)) ?_;rintro _ au ⟨rfl,hs⟩;have d:=f.add hs;refine jN (.c (d.ce 2) (.c (d.ce 0) (.c (d.ce 2) (.c (d.ce 0) (.c (d.ce 2) (jW (.c (d.ce 0) jZ))))))) ?_;refine go ?_;refine AW.u (i:=8) rfl (by kernel_rfl) rfl rfl (Pur.p rfl) ?_;refine AW.u (i:=21) rfl (by kernel_rfl) rfl rfl (Pur.build (vs:=[(0,vI (IntKind.i64.wrap ((IntKind.i64.wrap (j.pages+ae))+a.spent.pages))),(1,vI (IntKind.i64.wrap (j.rent+a.spent.rent))),(2,vI (IntKind.i64.wrap (j.cpu+a.spent.cpu)))]) (cs:=#[vI (IntKind.i64.wrap ((IntKind.i64.wrap (j.pages+ae))+a.spent.pages)),vI (IntKind.i64.wrap (j.rent+a.spent.rent)),vI (IntKind.i64.wrap (j.cpu+a.spent.cpu))]) rfl (by kernel_rfl)) ?_;refine jO 22 ?_;refine LW.st d 1 fun av B=>?_;refine jN (jW (jW (jW (jW (jW (jW (jW jZ))))))) ?_;refine go ?_;cases h;exact And.intro trivial ⟨_,Res.one (resOne.b B 1 rfl ag35 rfl rfl),rfl,B.pk []⟩
end Go.Kx
