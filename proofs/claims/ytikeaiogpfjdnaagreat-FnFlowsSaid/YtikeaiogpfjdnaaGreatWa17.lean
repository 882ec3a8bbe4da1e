/- Each call returns what the plain function says. Printed by drive.py. -/
import Derived.Test.YtikeaiogpfjdnaaGreatFa
import Derived.Test.YtikeaiogpfjdnaaGreatPu
import Derived.Test.YtikeaiogpfjdnaaGreatWa4
import Derived.Test.YtikeaiogpfjdnaaGreatWa5
import Derived.Test.YtikeaiogpfjdnaaGreatWa7
import Derived.Test.YtikeaiogpfjdnaaGreatWa16
namespace Go.Kx
open Go Go.RowKit Go.Proofs
set_option maxRecDepth 10000
set_option maxHeartbeats 8000000
set_option linter.unusedVariables false
set_option linter.unusedSimpArgs false
theorem D7 {w0 N q r} (h:tk N q=some r) {f m g} (n:m=q.length) (p:rb w0 f g q) :
    il Tryz.prog 107 #[vS f m g] w0 (fun v w=>v=.agg #[vI r.bh,vI r.ig,vI r.iB]∧St w0 [] w []):=by
 subst n;unfold tk at h;refine il.fn Tryz.func107 fun e=>?_;have L:=St.start w0;refine go ?_;refine LW.al L fun I aC M=>?_;refine go ?_;refine LW.u (iA.build (vs:=[]) (cs:=#[vI 0,vI 0,vI 0]) rfl (by kernel_rfl)) rfl ?_;refine LW.al M fun J aD O=>?_;refine LW.st O 0 fun aE R=>?_;refine go ?_;obtain ⟨av,x,K⟩:=ob h;refine CW.ie x 0 (fun c e wb=>En e [(0,vS f q.length g),(2,.pointer (some ⟨I,0,none⟩)),(3,.pointer (some ⟨J,0,none⟩)),(4,vI c.1)]∧St w0 [] wb [bx J 35 [vI c.2.1,vI c.2.2.1,vI c.2.2.2],bx I 35 [vI 0,vI 0,vI 0]]) ?_ (R.po [0,1]) ?_
 · intro c e aF o hM h;obtain ⟨e,rfl,a⟩:=eo hM;refine gc h ?_ ?_ <;> intro _ h
   · refine gb h fun aG Y h=>?_;obtain ⟨aj,au,Z,rfl,k,aa,ab,⟨ac,ak,ad,am,ae,an,af,ao,ah,ap,ai,aq,rfl,y,z,A,B,C,G⟩,t⟩:=p.idx Y;refine go ?_;refine LW.l (iF.jF w0 jq rfl rfl (fun j u hu=>t j u hu)) (a.same _ k.1 k.2) rfl ?_;have ⟨d,H,h⟩:=ob h;refine LW.c0 (Cr H rfl (a.rB y) rfl (a.rB z) rfl (a.rB A) rfl (a.rB B) rfl (a.rB C) rfl (a.rB G)) a fun aw U=>?_;refine LW.al U fun ar ax V=>?_;refine LW.st V 0 fun ay W=>?_;refine go ?_;refine LW.u (iA.build (vs:=[(0,vI (IntKind.i64.wrap (c.2.1+d.bh))),(1,vI (IntKind.i64.wrap (c.2.2.1+d.ig))),(2,vI (IntKind.i64.wrap (c.2.2.2+d.iB)))]) (cs:=#[vI (IntKind.i64.wrap (c.2.1+d.bh)),vI (IntKind.i64.wrap (c.2.2.1+d.ig)),vI (IntKind.i64.wrap (c.2.2.2+d.iB))]) rfl (by kernel_rfl)) rfl ?_;refine LW.st W 1 fun az X=>?_;refine go ?_;cases oi h;exact ⟨rfl,(X.po [1,2])⟩
   refine go ?_;cases oi h;exact ⟨trivial,rfl,(a.po [0,1])⟩
 rintro e aA ⟨hE,s⟩;obtain ⟨e,rfl⟩:=hE.out;have h:=K;refine go ?_;refine LW.st s 1 fun aB i=>?_;refine go ?_;cases h;exact And.intro trivial ⟨_,jG.one (ib.b i 1 rfl kn rfl rfl),rfl,i.pk []⟩
theorem vp {w0 N k r} (h:n7 N k=some r) {c g d} (i:g=k.parts.length) (b:rb w0 c d k.parts) :
    il Tryz.prog 38 #[.agg #[vI k.now,vS c g d]] w0 (fun v w=>v=.bool r∧St w0 [] w []):=by
 subst i;unfold n7 at h;refine il.fn Tryz.func38 fun e=>?_;have V:=St.start w0;refine go ?_;refine LW.bo V fun aJ aK n=>?_;refine gs ?_;obtain ⟨af,Y,ac⟩:=ob h;refine CW.jn [1] [0] [(14,.bool af)] n (h1:=?_) (h2:=?_)
 · have h:=Y;refine gb h fun aN Z h=>?_;refine LW.c0 (jb Z) n fun aL p=>?_;refine gB h ?_ ?_ <;> intro _ h
   · refine go ?_;cases oi h;exact p.po [0]
   refine gb h fun aO aa h=>?_;refine go ?_;refine LW.c0 (jb aa) p fun aM W=>?_;refine go ?_;cases oi h;exact W.po [0]
 intro e az q;have h:=ac;refine gc h ?_ ?_ <;> intro _ h
 · refine go ?_;cases h;exact fi q
 refine go ?_;obtain ⟨y,C,m⟩:=ob h;refine CW.mono (CW.lx [1] [0] [1] 0 (fun z=>[(3,vI z)]) (RT Tryz.prog Tryz.f38.results (fun u=>.bool u) w0 []) q C (hb:=?_)) ?_
 · intro z e aA o a h;refine gc h ?_ ?_ <;> intro _ h
   · refine gb h fun aF M h=>?_;obtain ⟨ao,ax,ab,rfl,f,ad,ae,⟨ah,ap,ai,aq,aj,ar,ak,au,am,av,an,aw,rfl,G,H,I,J,K,L⟩,B⟩:=b.idx M;refine go ?_;refine LW.l (iF.jF w0 jq rfl rfl (fun j u hu=>B j u hu)) (a.same _ f.1 f.2) rfl ?_;have ⟨aG,O,h⟩:=ob h;refine LW.c0 (vX O rfl (a.rB G) rfl (a.rB H) rfl (a.rB I) rfl (a.rB J) rfl (a.rB K) rfl (a.rB L)) a fun aB s=>?_;refine go ?_;refine CW.fl [1,3,28] fun e=>?_;refine gc h ?_ ?_ <;> intro _ h
     · refine go ?_;cases oi h;exact ⟨trivial,rfl,_,rfl,rx ⟨rfl,s.pk []⟩⟩
     refine go ?_;cases oi h;exact ⟨rfl,(s.po [0])⟩
   refine go ?_;cases oi h;exact ⟨trivial,rfl,(a.po [0])⟩
 intro x e aC hM;rcases y with y | ay
 · obtain ⟨rfl,hM⟩:=hM;obtain ⟨e,rfl,t⟩:=eo hM;have h:=m;refine gb h fun aH R h=>?_;refine LW.c0 (D7 R rfl (t.rB b)) t fun aD X=>?_;have ⟨aI,U,h⟩:=ob h;refine LW.c0 (lE U) X fun aE A=>?_;refine go ?_;cases h;exact fi A
 obtain ⟨rfl,u,rfl,hM⟩:=hM;cases m;exact And.intro trivial hM
end Go.Kx
