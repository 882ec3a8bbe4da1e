/- Each call returns what the plain function says. Printed by drive.py. -/
import Derived.Test.YtikeaiogpfjdnaaGreatFa
import Derived.Test.YtikeaiogpfjdnaaGreatPu
import Derived.Test.YtikeaiogpfjdnaaGreatWa4
import Derived.Test.YtikeaiogpfjdnaaGreatWa5
import Derived.Test.YtikeaiogpfjdnaaGreatWa7
namespace Go.Kx
open Go Go.RowKit Go.Proofs
set_option maxRecDepth 10000
set_option maxHeartbeats 8000000
set_option linter.unusedVariables false
set_option linter.unusedSimpArgs false
theorem D5 {w0} {F:List Nat} {N a U r} (h:sY N a U=some r) {C:Nat} {f b c d} (hS:St w0 F w0 [bx C 32 [vS f a.ag.length b,vI a.gc.phase,vI a.gc.pos,vI a.gc.round,vS c a.gc.ia.length d],sl f b a.ag,sl c d a.gc.ia]) :
    il Tryz.prog 168 #[.pointer (some ⟨C,0,none⟩),vI U] w0 (fun v w=>∃ k o, ∃ m p,v=.tuple #[]∧St w0 F w [bx C 32 (qH k o m p r),sl k o r.ag,sl m p r.gc.ia]):=by
 unfold sY at h;refine il.fn Tryz.func168 fun e=>?_;refine gs ?_;obtain ⟨ai,aa,h2⟩:=ob h;refine CW.jn [0,1] [0,1,2] [(30,.bool ai)] hS (h1:=?_) (h2:=?_)
 · have h:=aa;refine go ?_;refine LW.u (iC.nc rfl) rfl ?_;refine gB h ?_ ?_ <;> intro _ h
   · refine go ?_;cases oi h;exact ⟨⟨rfl,rfl,rfl,trivial⟩,hS.pk [0,1,2]⟩
   refine go ?_;refine LW.u (iC.nc rfl) rfl ?_;refine gb h fun aO J h=>?_;obtain ⟨aM,aN,hae,az,aA⟩:=hS.iJ (α:=bh) (i:=1) rfl J;subst hae;refine go ?_;obtain ⟨aL,g,q⟩:=hS.freeze (α:=bh) 1 rfl;obtain ⟨av,aB,ab,hae,y,_,_,K,z⟩:=g.jX.idx J;cases hae;obtain ⟨aq,aw,ar,ax,au,ay,rfl,ae,af,ah⟩:=K;refine go ?_;refine LW.l (iF.iN w0 iY rfl (z 1 _ rfl)) (q.zC 1 rfl y) rfl ?_;refine gB h ?_ ?_ <;> intro _ h
   · refine go ?_;have X:=q.jf (α:=bh) 1 rfl g;cases oi h;exact X.po [0,1,2]
   refine go ?_;refine LW.u (iC.nc rfl) rfl ?_;refine go ?_;refine LW.l (iF.iN w0 pd rfl (z 9 _ rfl)) (q.zC 1 rfl y) rfl ?_;refine go ?_;have Y:=q.jf (α:=bh) 1 rfl g;cases oi h;exact Y.po [0,1,2]
 intro e aD t;have h:=h2;refine gc h ?_ ?_ <;> intro _ h
 · refine go ?_;replace h:=oi h;subst h;exact And.intro trivial ⟨_,jB.zero , f,b,c,d,rfl,t.pk [0,1,2]⟩
 refine go ?_;refine LW.u (iC.nc rfl) rfl ?_;refine gb h fun aI A h=>?_;obtain ⟨n,s,hae,ac,ad⟩:=t.iJ (α:=bh) (i:=1) rfl A;subst hae;refine go ?_;refine gb h fun B j h=>?_;refine LW.se 9 t 1 A j (hM:=(j7 (fun w cs F hF=>by obtain ⟨aj,an,ak,ao,am,ap,rfl,hH⟩:=hF;exact ⟨aj,an,ak,ao,am,ap,rfl,hH⟩))) fun aE H=>?_;refine go ?_;refine LW.u (iC.nc rfl) rfl ?_;refine gb h fun aJ O h=>?_;refine LW.c0 (mZ O rfl (H.rI 2 rfl)) H fun aF x=>?_;refine go ?_;refine CW.fl [0,1,45] fun e=>?_;refine gc h ?_ ?_ <;> intro _ h
 · refine go ?_;refine LW.u (iC.nc rfl) rfl ?_;refine gb h fun aK R h=>?_;refine LW.kV (M:=[]) (L:=[bx C 32 [vS (some ⟨n,s,none⟩) a.ag.length b,vI a.gc.phase,vI a.gc.pos,vI a.gc.round,vS c a.gc.ia.length d],sl (some ⟨n,s,none⟩) b B,sl c d a.gc.ia]) (vs:=#[vI U]) (i:=2) lL rfl (by kernel_rfl) rfl rfl R x rfl (fun w G hG=>by cases (show G=[] from hG);exact ⟨rfl,rfl⟩) rfl rfl ?_;intro aC V W aG Z hf;refine LW.u (iC.nc rfl) rfl ?_;refine go ?_;refine LW.st Z 0 fun aH I=>?_;refine go ?_;replace h:=oi h;subst h;rw [show a.ag.length=B.length from (iH (oi j))] at I;exact And.intro trivial ⟨_,jB.zero , (some ⟨n,s,none⟩),b,V,W,rfl,I.pk [0,1,2]⟩
 refine go ?_;replace h:=oi h;subst h;rw [show a.ag.length=B.length from (iH (oi j))] at x;exact And.intro trivial ⟨_,jB.zero , (some ⟨n,s,none⟩),b,c,d,rfl,x.pk [0,1,2]⟩
theorem wX {w0 N n r} (h:oS N n=some r) {c m d} (p:m=n.length) (f:rb w0 c d n) :
    il Tryz.prog 169 #[vS c m d] w0 (fun v w=>v=.agg #[vI r.cd,vI r.ij,vI r.iD]∧St w0 [] w []):=by
 subst p;unfold oS at h;refine il.fn Tryz.func169 fun e=>?_;have K:=St.start w0;refine go ?_;refine LW.al K fun H an L=>?_;refine go ?_;refine LW.u (iC.build (vs:=[]) (cs:=#[vI 0,vI 0,vI 0]) rfl (by kernel_rfl)) rfl ?_;refine LW.al L fun I ao M=>?_;refine LW.st M 0 fun ap q=>?_;refine gb h fun au U h=>?_;refine LW.c0 (qe U rfl (q.rB f)) q fun aq s=>?_;refine gc h ?_ ?_ <;> intro _ h
 · refine go ?_;refine LW.st s 1 fun ar t=>?_;refine go ?_;cases h;exact And.intro trivial ⟨_,jB.one (ib.b t 1 rfl km rfl rfl),rfl,t.pk []⟩
 refine go ?_;obtain ⟨ab,B,J⟩:=ob h;refine CW.ie B 0 (fun a e wb=>En e [(2,.pointer (some ⟨H,0,none⟩)),(3,.pointer (some ⟨I,0,none⟩)),(11,vS c n.length d),(12,vI (n.length:Int)),(13,vI a.1)]∧St w0 [] wb [bx I 35 [vI a.2.1,vI a.2.2.1,vI a.2.2.2],bx H 35 [vI 0,vI 0,vI 0]]) ?_ (s.po [0,1]) ?_
 · intro a e ac o hM h;obtain ⟨e,rfl,i⟩:=eo hM;refine gc h ?_ ?_ <;> intro _ h
   · refine gb h fun ak C h=>?_;obtain ⟨Y,aa,V,rfl,k,W,X,rfl,A⟩:=f.idx C;refine go ?_;refine LW.l (iF.jF w0 xp rfl rfl (fun j u hu=>A j u hu)) (i.same _ k.1 k.2) rfl ?_;refine LW.al i fun Z ad O=>?_;refine LW.st O 0 fun ae R=>?_;refine gb h fun am G h=>?_;refine LW.c0 (ni G) R fun af x=>?_;refine LW.st x 1 fun ah y=>?_;refine go ?_;cases oi h;exact ⟨rfl,(y.po [1,2])⟩
   refine go ?_;cases oi h;exact ⟨trivial,rfl,(i.po [0,1])⟩
 rintro e ai ⟨hE,z⟩;obtain ⟨e,rfl⟩:=hE.out;have h:=J;refine go ?_;refine LW.st z 1 fun aj g=>?_;refine go ?_;cases h;exact And.intro trivial ⟨_,jB.one (ib.b g 1 rfl km rfl rfl),rfl,g.pk []⟩
theorem AN {w0 N af au A r} (h:pI N af au A=some r) {g t l} (z:t=af.length) (a:rb w0 g l af) :
    il Tryz.prog 89 #[vS g t l,vI au,.agg #[vI A.cd,vI A.ij,vI A.iD]] w0 (fun v w=>∃ B C,v=.tuple #[vS B r.1.length C,.bool r.2]∧St w0 [] w [sl B C r.1]):=by
 subst z;unfold pI at h;refine il.fn Tryz.func89 fun e=>?_;have ai:=St.start w0;refine go ?_;refine LW.bo ai fun aV aW G=>?_;refine gb h fun av ao h=>?_;refine LW.cl (n8 ao rfl (G.rB a)) ?_;rintro _ aX ⟨aw,y,rfl,hs⟩;have H:=G.add hs;refine gs ?_;obtain ⟨aB,an,ay⟩:=ob h;refine CW.jn [0,1,5,8] [0,1] [(26,.bool aB)] H (h1:=?_) (h2:=?_)
 · have h:=an;refine CW.draw (by kernel_rfl) ?_;have I:=H.drew;refine gb h fun aY ap h=>?_;refine jO 1 ?_;refine LW.cl (qe ap rfl (I.rB a)) ?_;rintro _ aF ⟨rfl,hs⟩;have J:=I.add hs;refine jN jZ ?_;refine gB h ?_ ?_ <;> intro V h
   · refine go ?_;cases oi h;exact J.po [0,1]
   refine gb h fun aO Z h=>?_;refine jO 5 ?_;refine (LW.gY (jS rfl rfl V) ?_);refine LW.cl (lj Z) ?_;rintro _ aG ⟨rfl,hs⟩;have p:=J.add hs;refine jn ?_;refine gB h ?_ ?_ <;> intro d h
   · refine go ?_;cases oi h;exact p.po [0,1]
   refine gb h fun aP aa h=>?_;refine jO 10 ?_;refine (LW.gY (jS rfl rfl d) ?_);refine LW.cl (wX aa rfl (p.rB a)) ?_;rintro _ aH ⟨rfl,hs⟩;have aj:=p.add hs;refine jn ?_;have ⟨aQ,ab,h⟩:=ob h;refine jO 12 ?_;refine (LW.gY (jS rfl rfl d) ?_);refine LW.cl (ni ab) ?_;rintro _ aI ⟨rfl,hs⟩;have ak:=aj.add hs;refine jn ?_;have ⟨aR,ac,h⟩:=ob h;refine jO 13 ?_;refine (LW.gY (jS rfl rfl d) ?_);refine LW.cl (lj ac) ?_;rintro _ aJ ⟨rfl,hs⟩;have am:=ak.add hs;refine jn ?_;refine go ?_;cases oi h;exact am.po [0,1]
 intro e aK b;have h:=ay;refine gc h ?_ ?_ <;> intro _ h
 · refine go ?_;cases h;exact Rc tt tt ⟨aw,y,rfl,b.pk [0]⟩
 refine gb h fun aS ad h=>?_;refine LW.c0 (ot ad rfl (b.rB a)) b fun aL c=>?_;refine gs ?_;obtain ⟨aq,X,ah⟩:=ob h;refine CW.jn [5,8] [0,1] [(1,vI aq)] c (h1:=?_) (h2:=?_)
 · have h:=X;refine gc h ?_ ?_ <;> intro _ h
   · refine go ?_;cases oi h;exact c.po [0,1]
   refine go ?_;cases oi h;exact c.po [0,1]
 intro e ar L;have h:=ah;refine go ?_;refine CW.draw (by kernel_rfl) ?_;have n:=L.drew;refine gb h fun aT f h=>?_;obtain ⟨k,x,hae,az,aA⟩:=n.iJ (α:=iy) (i:=0) rfl f;subst hae;refine go ?_;obtain ⟨aC,q,o⟩:=n.freeze (α:=iy) 0 rfl;obtain ⟨aD,aE,ax,hae,U,_,_,W,Y⟩:=q.jX.idx f;cases hae;obtain rfl:=W;refine AW.take (i:=6) rfl (by kernel_rfl) rfl rfl (iF.jF ar.drew km rfl rfl (fun j u hu=>lW (m:=3) Y 2 hu)) (o.zC 0 rfl U) ?_;refine gb h fun aU ae h=>?_;refine jO 8 ?_;refine LW.cl (ni ae) ?_;rintro _ aM ⟨rfl,hs⟩;have M:=o.add hs;refine jn ?_;refine go ?_;have O:=M.jf (α:=iy) 0 rfl q;have ⟨K,s,h⟩:=ob h;refine jO 11 ?_;refine LW.se 2 O 0 f s (hM:=(j7 (fun w cs F hF=>by obtain ⟨rfl,rfl⟩:=hF;exact ⟨rfl,rfl⟩))) fun aN R=>?_;refine jn ?_;refine go ?_;replace h:=oi h;subst h;exact Rc tt tt ⟨(some ⟨k,x,none⟩),y,(show (.tuple #[vS (some ⟨k,x,none⟩) av.length y,.bool true]:Value)=.tuple #[vS (some ⟨k,x,none⟩) K.length y,.bool true] by rw [show av.length=K.length from (iH (oi s))]),R.pk [0]⟩
end Go.Kx
