/- Each call returns what the plain function says. Printed by drive.py. -/
import Derived.Test.YtikeaiogpfjdnaaGreatFa
import Derived.Test.YtikeaiogpfjdnaaGreatPu
import Derived.Test.YtikeaiogpfjdnaaGreatWa4
import Derived.Test.YtikeaiogpfjdnaaGreatWa5
import Derived.Test.YtikeaiogpfjdnaaGreatWa6
namespace Go.Kx
open Go Go.RowKit Go.Proofs
set_option maxRecDepth 10000
set_option maxHeartbeats 8000000
set_option linter.unusedVariables false
set_option linter.unusedSimpArgs false
theorem v7 {w0 N a r} (h:pT N a=some r) {d C n} (L:C=a.label.levels.length) (ak:rb w0 d n a.label.levels) {f G p} (M:G=a.own.length) (am:rb w0 f p a.own) {g H q} (O:H=a.tree.length) (an:rb w0 g q a.tree) {i I s} (R:I=a.heap.ag.length) (W:rb w0 i s a.heap.ag) {k J t} (U:J=a.heap.gc.gE.length) (ao:rb w0 k t a.heap.gc.gE) {m K y} (V:K=a.iz.length) (ap:rb w0 m y a.iz) :
    iA Tryz.prog 35 #[.agg #[vS d C n,vS f G p,vS g H q,vS i I s,vI a.heap.gc.phase,vI a.heap.gc.pos,vI a.heap.gc.round,vS k J t,vS m K y,vI a.next,vI a.want,vI a.hZ.cd,vI a.hZ.im,vI a.hZ.iC,vI a.iH,vI a.lost]] w0 (fun v w=>v=vI r∧St w0 [] w []):=by
 subst L M O R U V;unfold pT at h;refine iA.fn Tryz.func35 fun e=>?_;have af:=St.start w0;refine go ?_;refine LW.bo af fun aK aL ah=>?_;refine go ?_;obtain ⟨aF,X,ae⟩:=ob h;refine CW.mono (CW.lb [1] [0] [3] 0 (fun ad=>[(3,vI ad.1),(4,vI ad.2)]) ah X (hb:=?_)) ?_
 · intro ad e aM o z h;refine gs ?_;obtain ⟨aw,aj,ar⟩:=ob h;refine CW.jn [1,3,4] [0] [(14,.bool aw)] z (h1:=?_) (h2:=?_)
   · have h:=aj;refine gB h ?_ ?_ <;> intro _ h
     · refine go ?_;cases oi h;exact z.po [0]
     refine go ?_;cases oi h;exact z.po [0]
   intro e aN b;have h:=ar;refine gc h ?_ ?_ <;> intro _ h
   · refine gb h fun aI ab h=>?_;obtain ⟨aA,aE,aq,rfl,c,au,av,⟨ax,aB,ay,aC,az,aD,rfl,Y,Z,aa⟩,B⟩:=W.idx ab;refine go ?_;refine LW.l (iF.kg w0 lA rfl rfl (fun j u hu=>B j u hu)) (b.same _ c.1 c.2) rfl ?_;have ⟨aJ,ac,h⟩:=ob h;refine LW.c0 (yd ac rfl (b.rB Y) rfl (b.rB Z) rfl (b.rB aa)) b fun aG A=>?_;refine gc h ?_ ?_ <;> intro _ h
     · refine go ?_;refine LW.l (iF.iK w0 iW rfl (B 5 _ rfl)) (A.same _ c.1 c.2) rfl ?_;refine go ?_;cases oi h;exact ⟨rfl,(A.po [0])⟩
     refine go ?_;cases oi h;exact ⟨rfl,(A.po [0])⟩
   refine go ?_;cases oi h;exact ⟨trivial,rfl,(b.po [0])⟩
 intro x e aH hM;obtain ⟨rfl,hM⟩:=hM;obtain ⟨e,rfl,ai⟩:=eo hM;have h:=ae;refine go ?_;cases h;exact fi ai
theorem As {w0 N m r} (h:o7 N m=some r) {c g d} (i:g=m.length) (a:rb w0 c d m) :
    iA Tryz.prog 65 #[vS c g d] w0 (fun v w=>v=.agg #[vI r.cd,vI r.im,vI r.iC]∧St w0 [] w []):=by
 subst i;unfold o7 at h;refine iA.fn Tryz.func65 fun e=>?_;have n:=St.start w0;refine go ?_;refine LW.al n fun s t j=>?_;refine gb h fun B p h=>?_;refine LW.c0 (r6 p rfl (j.rB a)) j fun x f=>?_;refine gc h ?_ ?_ <;> intro _ h
 · refine go ?_;refine LW.u (iG.build (vs:=[]) (cs:=#[vI 0,vI 0,vI 0]) rfl (by kernel_rfl)) rfl ?_;refine LW.st f 0 fun y k=>?_;refine go ?_;cases h;exact And.intro trivial ⟨_,jB.one (ig.b k 0 rfl kE rfl rfl),rfl,k.pk []⟩
 refine gb h fun C q h=>?_;refine LW.c0 (sY q rfl (f.rB a)) f fun z o=>?_;refine LW.st o 0 fun A l=>?_;refine go ?_;cases h;exact And.intro trivial ⟨_,jB.one (ig.b l 0 rfl kE rfl rfl),rfl,l.pk []⟩
theorem tf {w0 N a r} (h:mW N a=some r) {g A o} (J:A=a.label.levels.length) (U:rb w0 g o a.label.levels) {j B q} (K:B=a.own.length) (V:rb w0 j q a.own) {k C s} (L:C=a.tree.length) (d:rb w0 k s a.tree) {l G t} (M:G=a.heap.ag.length) (W:rb w0 l t a.heap.ag) {m H x} (O:H=a.heap.gc.gE.length) (X:rb w0 m x a.heap.gc.gE) {n I y} (R:I=a.iz.length) (Y:rb w0 n y a.iz) :
    iA Tryz.prog 14 #[.agg #[vS g A o,vS j B q,vS k C s,vS l G t,vI a.heap.gc.phase,vI a.heap.gc.pos,vI a.heap.gc.round,vS m H x,vS n I y,vI a.next,vI a.want,vI a.hZ.cd,vI a.hZ.im,vI a.hZ.iC,vI a.iH,vI a.lost]] w0 (fun v w=>v=.agg #[vI r.cd,vI r.im,vI r.iC]∧St w0 [] w []):=by
 subst J K L M O R;unfold mW at h;refine iA.fn Tryz.func14 fun e=>?_;have ah:=St.start w0;refine go ?_;refine LW.bo ah fun av ay ai=>?_;refine LW.al ai fun aw az Z=>?_;refine gb h fun f an h=>?_;refine LW.c0 (As an rfl (Z.rB d)) Z fun aA aj=>?_;refine LW.al aj fun ax aB ak=>?_;refine LW.st ak 0 fun aC am=>?_;refine gb h fun au ae h=>?_;refine LW.c0 (kU ae) am fun ao aa=>?_;refine gc h ?_ ?_ <;> intro _ h
 · refine go ?_;refine LW.st aa 1 fun ap ab=>?_;refine go ?_;cases h;exact And.intro trivial ⟨_,jB.one (ig.b ab 1 rfl kE rfl rfl),rfl,ab.pk []⟩
 refine go ?_;refine CW.draw (by kernel_rfl) ?_;have c:=aa.drew;refine gb h fun ac af h=>?_;refine jO 3 ?_;refine LW.cl (v7 af rfl (c.rB U) rfl (c.rB V) rfl (c.rB d) rfl (c.rB W) rfl (c.rB X) rfl (c.rB Y)) ?_;rintro _ aq ⟨rfl,hs⟩;have ad:=c.add hs;refine jn ?_;refine go ?_;refine AW.u (i:=8) rfl (by kernel_rfl) rfl rfl (iG.p rfl) ?_;refine AW.u (i:=21) rfl (by kernel_rfl) rfl rfl (iG.build (vs:=[(0,vI (IntKind.i64.wrap ((IntKind.i64.wrap (f.cd+ac))+a.hZ.cd))),(1,vI (IntKind.i64.wrap (f.im+a.hZ.im))),(2,vI (IntKind.i64.wrap (f.iC+a.hZ.iC)))]) (cs:=#[vI (IntKind.i64.wrap ((IntKind.i64.wrap (f.cd+ac))+a.hZ.cd)),vI (IntKind.i64.wrap (f.im+a.hZ.im)),vI (IntKind.i64.wrap (f.iC+a.hZ.iC))]) rfl (by kernel_rfl)) ?_;refine jO 22 ?_;refine LW.st ad 1 fun ar z=>?_;refine jn ?_;refine go ?_;cases h;exact And.intro trivial ⟨_,jB.one (ig.b z 1 rfl kE rfl rfl),rfl,z.pk []⟩
end Go.Kx
