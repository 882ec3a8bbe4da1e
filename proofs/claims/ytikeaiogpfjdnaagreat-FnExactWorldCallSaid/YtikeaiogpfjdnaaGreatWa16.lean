/- Each call returns what the plain function says. Printed by drive.py. -/
import Derived.Test.YtikeaiogpfjdnaaGreatFa
import Derived.Test.YtikeaiogpfjdnaaGreatPu
import Derived.Test.YtikeaiogpfjdnaaGreatWa4
import Derived.Test.YtikeaiogpfjdnaaGreatWa5
import Derived.Test.YtikeaiogpfjdnaaGreatWa6
namespace Go.Kx
open Go Go.RowKit Go.Proofs
set_option maxRecDepth 10000
set_option maxHeartbeats 8000000
set_option linter.unusedVariables false
set_option linter.unusedSimpArgs false
theorem KU {w0 N a r} (h:A8 N a=some r) {d C n} (L:C=a.label.levels.length) (ak:rb w0 d n a.label.levels) {f G p} (M:G=a.own.length) (am:rb w0 f p a.own) {g H q} (O:H=a.tree.length) (an:rb w0 g q a.tree) {i I s} (R:I=a.heap.ag.length) (W:rb w0 i s a.heap.ag) {k J t} (U:J=a.heap.gc.j8.length) (ao:rb w0 k t a.heap.gc.j8) {m K y} (V:K=a.pN.length) (ap:rb w0 m y a.pN) :
    pT Tryz.prog 35 #[.agg #[vS d C n,vS f G p,vS g H q,vS i I s,vI a.heap.gc.phase,vI a.heap.gc.pos,vI a.heap.gc.round,vS k J t,vS m K y,vI a.next,vI a.want,vI a.dz.bh,vI a.dz.pU,vI a.dz.qc,vI a.pV,vI a.lost]] w0 (fun v w=>v=vI r∧St w0 [] w []):=by
 subst L M O R U V;unfold A8 at h;refine pT.fn Tryz.func35 fun e=>?_;have af:=St.start w0;refine go ?_;refine LW.bo af fun aK aL ah=>?_;refine go ?_;obtain ⟨aF,X,ae⟩:=ob h;refine CW.mono (CW.lb [1] [0] [3] 0 (fun ad=>[(3,vI ad.1),(4,vI ad.2)]) ah X (hb:=?_)) ?_
 · intro ad e aM o z h;refine gs ?_;obtain ⟨aw,aj,ar⟩:=ob h;refine CW.jn [1,3,4] [0] [(14,.bool aw)] z (h1:=?_) (h2:=?_)
   · have h:=aj;refine gB h ?_ ?_ <;> intro _ h
     · refine go ?_;cases oi h;exact z.po [0]
     refine go ?_;cases oi h;exact z.po [0]
   intro e aN b;have h:=ar;refine gc h ?_ ?_ <;> intro _ h
   · refine gb h fun aI ab h=>?_;obtain ⟨aA,aE,aq,rfl,c,au,av,⟨ax,aB,ay,aC,az,aD,rfl,Y,Z,aa⟩,B⟩:=W.idx ab;refine go ?_;refine LW.l (pZ.rh w0 um rfl rfl (fun j u hu=>B j u hu)) (b.same _ c.1 c.2) rfl ?_;have ⟨aJ,ac,h⟩:=ob h;refine LW.c0 (Fs ac rfl (b.rB Y) rfl (b.rB Z) rfl (b.rB aa)) b fun aG A=>?_;refine gc h ?_ ?_ <;> intro _ h
     · refine go ?_;refine LW.l (pZ.qk w0 qA rfl (B 5 _ rfl)) (A.same _ c.1 c.2) rfl ?_;refine go ?_;cases oi h;exact ⟨rfl,(A.po [0])⟩
     refine go ?_;cases oi h;exact ⟨rfl,(A.po [0])⟩
   refine go ?_;cases oi h;exact ⟨trivial,rfl,(b.po [0])⟩
 intro x e aH hM;obtain ⟨rfl,hM⟩:=hM;obtain ⟨hE,ai⟩:=hM;obtain ⟨e,rfl⟩:=hE.out;have h:=ae;refine go ?_;cases h;exact fi ai
theorem HK {w0 N m r} (h:xW N m=some r) {c g d} (i:g=m.length) (a:rb w0 c d m) :
    pT Tryz.prog 65 #[vS c g d] w0 (fun v w=>v=.agg #[vI r.bh,vI r.pU,vI r.qc]∧St w0 [] w []):=by
 subst i;unfold xW at h;refine pT.fn Tryz.func65 fun e=>?_;have n:=St.start w0;refine go ?_;refine LW.al n fun s t j=>?_;refine gb h fun B p h=>?_;refine LW.c0 (AE p rfl (j.rB a)) j fun x f=>?_;refine gc h ?_ ?_ <;> intro _ h
 · refine go ?_;refine LW.u (pY.build (vs:=[]) (cs:=#[vI 0,vI 0,vI 0]) rfl (by kernel_rfl)) rfl ?_;refine LW.st f 0 fun y k=>?_;refine go ?_;cases h;exact And.intro trivial ⟨_,rG.one (pP.b k 0 rfl r9 rfl rfl),rfl,k.pk []⟩
 refine gb h fun C q h=>?_;refine LW.c0 (Br q rfl (f.rB a)) f fun z o=>?_;refine LW.st o 0 fun A l=>?_;refine go ?_;cases h;exact And.intro trivial ⟨_,rG.one (pP.b l 0 rfl r9 rfl rfl),rfl,l.pk []⟩
theorem HO {w0 N a r} (h:xY N a=some r) {k C s} (L:C=a.label.levels.length) (W:rb w0 k s a.label.levels) {l G t} (M:G=a.own.length) (X:rb w0 l t a.own) {m H x} (O:H=a.tree.length) (g:rb w0 m x a.tree) {n I y} (R:I=a.heap.ag.length) (Y:rb w0 n y a.heap.ag) {o J z} (U:J=a.heap.gc.j8.length) (Z:rb w0 o z a.heap.gc.j8) {q K A} (V:K=a.pN.length) (aa:rb w0 q A a.pN) :
    pT Tryz.prog 14 #[.agg #[vS k C s,vS l G t,vS m H x,vS n I y,vI a.heap.gc.phase,vI a.heap.gc.pos,vI a.heap.gc.round,vS o J z,vS q K A,vI a.next,vI a.want,vI a.dz.bh,vI a.dz.pU,vI a.dz.qc,vI a.pV,vI a.lost]] w0 (fun v w=>v=.agg #[vI r.bh,vI r.pU,vI r.qc]∧St w0 [] w []):=by
 subst L M O R U V;unfold xY at h;refine pT.fn Tryz.func14 fun e=>?_;have ai:=St.start w0;refine go ?_;refine LW.bo ai fun aw az aj=>?_;refine LW.al aj fun ax aA ab=>?_;refine gb h fun j ao h=>?_;refine LW.c0 (HK ao rfl (ab.rB g)) ab fun aB ak=>?_;refine LW.al ak fun ay aC am=>?_;refine LW.st am 0 fun aD an=>?_;refine gb h fun av af h=>?_;refine LW.c0 (tp af) an fun ap ac=>?_;refine gc h ?_ ?_ <;> intro _ h
 · refine go ?_;refine LW.st ac 1 fun aq ad=>?_;refine go ?_;cases h;exact And.intro trivial ⟨_,rG.one (pP.b ad 1 rfl r9 rfl rfl),rfl,ad.pk []⟩
 refine go ?_;refine CW.draw (by kernel_rfl) ?_;have f:=ac.drew;refine gb h fun ae ah h=>?_;refine jO 3 ?_;refine LW.cl (KU ah rfl (f.rB W) rfl (f.rB X) rfl (f.rB g) rfl (f.rB Y) rfl (f.rB Z) rfl (f.rB aa)) ?_;rintro _ ar ⟨rfl,hs⟩;have d:=f.add hs;refine jN (.c (d.ce 2) (.c (d.ce 0) (.c (d.ce 2) (.c (d.ce 0) (.c (d.ce 2) (jW (.c (d.ce 0) jZ))))))) ?_;refine go ?_;refine AW.u (i:=8) rfl (by kernel_rfl) rfl rfl (pY.p rfl) ?_;refine AW.u (i:=21) rfl (by kernel_rfl) rfl rfl (pY.build (vs:=[(0,vI (IntKind.i64.wrap ((IntKind.i64.wrap (j.bh+ae))+a.dz.bh))),(1,vI (IntKind.i64.wrap (j.pU+a.dz.pU))),(2,vI (IntKind.i64.wrap (j.qc+a.dz.qc)))]) (cs:=#[vI (IntKind.i64.wrap ((IntKind.i64.wrap (j.bh+ae))+a.dz.bh)),vI (IntKind.i64.wrap (j.pU+a.dz.pU)),vI (IntKind.i64.wrap (j.qc+a.dz.qc))]) rfl (by kernel_rfl)) ?_;refine jO 22 ?_;refine LW.st d 1 fun au B=>?_;refine jN (jW (jW (jW (jW (jW (jW (jW jZ))))))) ?_;refine go ?_;cases h;exact And.intro trivial ⟨_,rG.one (pP.b B 1 rfl r9 rfl rfl),rfl,B.pk []⟩
end Go.Kx
