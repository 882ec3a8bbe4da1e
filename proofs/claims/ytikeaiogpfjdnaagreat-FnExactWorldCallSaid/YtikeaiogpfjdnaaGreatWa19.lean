/- Each call returns what the plain function says. Printed by drive.py. -/
import Derived.Test.YtikeaiogpfjdnaaGreatFa
import Derived.Test.YtikeaiogpfjdnaaGreatPu
import Derived.Test.YtikeaiogpfjdnaaGreatWa4
import Derived.Test.YtikeaiogpfjdnaaGreatWa5
import Derived.Test.YtikeaiogpfjdnaaGreatWa7
namespace Go.Kx
open Go Go.RowKit Go.Proofs
set_option maxRecDepth 10000
set_option maxHeartbeats 8000000
set_option linter.unusedVariables false
set_option linter.unusedSimpArgs false
theorem Kk {w0} {F:List Nat} {N a U r} (h:Ai N a U=some r) {C:Nat} {f b c d} (hS:St w0 F w0 [bx C 32 [vS f a.ag.length b,vI a.gc.phase,vI a.gc.pos,vI a.gc.round,vS c a.gc.j8.length d],sl f b a.ag,sl c d a.gc.j8]) :
    pT Tryz.prog 168 #[.pointer (some ⟨C,0,none⟩),vI U] w0 (fun v w=>∃ k o, ∃ m p,v=.tuple #[]∧St w0 F w [bx C 32 (qH k o m p r),sl k o r.ag,sl m p r.gc.j8]):=by
 unfold Ai at h;refine pT.fn Tryz.func168 fun e=>?_;refine gs ?_;obtain ⟨ai,aa,h2⟩:=ob h;refine CW.jn [0,1] [0,1,2] [(30,.bool ai)] hS (h1:=?_) (h2:=?_)
 · have h:=aa;refine go ?_;refine LW.u (pY.nc rfl) rfl ?_;refine gB h ?_ ?_ <;> intro _ h
   · refine go ?_;cases oi h;exact ⟨⟨rfl,rfl,rfl,trivial⟩,hS.pk [0,1,2]⟩
   refine go ?_;refine LW.u (pY.nc rfl) rfl ?_;refine gb h fun aO J h=>?_;obtain ⟨aM,aN,hae,az,aA⟩:=hS.qi (α:=eg) (i:=1) rfl J;subst hae;refine go ?_;obtain ⟨aL,g,q⟩:=hS.freeze (α:=eg) 1 rfl;obtain ⟨av,aB,ab,hae,y,_,_,K,z⟩:=g.r6.idx J;cases hae;obtain ⟨aq,aw,ar,ax,au,ay,rfl,ae,af,ah⟩:=K;refine go ?_;refine LW.l (pZ.qk w0 qA rfl (z 1 _ rfl)) (q.zC 1 rfl y) rfl ?_;refine gB h ?_ ?_ <;> intro _ h
   · refine go ?_;have X:=q.qK (α:=eg) 1 rfl g;cases oi h;exact X.po [0,1,2]
   refine go ?_;refine LW.u (pY.nc rfl) rfl ?_;refine go ?_;refine LW.l (pZ.qk w0 wE rfl (z 9 _ rfl)) (q.zC 1 rfl y) rfl ?_;refine go ?_;have Y:=q.qK (α:=eg) 1 rfl g;cases oi h;exact Y.po [0,1,2]
 intro e aD t;have h:=h2;refine gc h ?_ ?_ <;> intro _ h
 · refine go ?_;replace h:=oi h;subst h;exact And.intro trivial ⟨_,rG.zero , f,b,c,d,rfl,t.pk [0,1,2]⟩
 refine go ?_;refine LW.u (pY.nc rfl) rfl ?_;refine gb h fun aI A h=>?_;obtain ⟨n,s,hae,ac,ad⟩:=t.qi (α:=eg) (i:=1) rfl A;subst hae;refine go ?_;refine gb h fun B j h=>?_;refine LW.se 9 t 1 A j (hM:=(rE (fun w cs F hF=>by obtain ⟨aj,an,ak,ao,am,ap,rfl,hH⟩:=hF;exact ⟨aj,an,ak,ao,am,ap,rfl,hH⟩))) fun aE H=>?_;refine go ?_;refine LW.u (pY.nc rfl) rfl ?_;refine gb h fun aJ O h=>?_;refine LW.c0 (uL O rfl (H.rI 2 rfl)) H fun aF x=>?_;refine go ?_;refine CW.fl [0,1,45] fun e=>?_;refine gc h ?_ ?_ <;> intro _ h
 · refine go ?_;refine LW.u (pY.nc rfl) rfl ?_;refine gb h fun aK R h=>?_;refine LW.uq (M:=[]) (L:=[bx C 32 [vS (some ⟨n,s,none⟩) a.ag.length b,vI a.gc.phase,vI a.gc.pos,vI a.gc.round,vS c a.gc.j8.length d],sl (some ⟨n,s,none⟩) b B,sl c d a.gc.j8]) (vs:=#[vI U]) (i:=2) xv rfl (by kernel_rfl) rfl rfl R x rfl (fun w G hG=>by cases (show G=[] from hG);exact ⟨rfl,rfl⟩) rfl rfl ?_;intro aC V W aG Z hf;refine LW.u (pY.nc rfl) rfl ?_;refine go ?_;refine LW.st Z 0 fun aH I=>?_;refine go ?_;replace h:=oi h;subst h;rw [show a.ag.length=B.length from (pO (oi j))] at I;exact And.intro trivial ⟨_,rG.zero , (some ⟨n,s,none⟩),b,V,W,rfl,I.pk [0,1,2]⟩
 refine go ?_;replace h:=oi h;subst h;rw [show a.ag.length=B.length from (pO (oi j))] at x;exact And.intro trivial ⟨_,rG.zero , (some ⟨n,s,none⟩),b,c,d,rfl,x.pk [0,1,2]⟩
theorem Du {w0 N n r} (h:wQ N n=some r) {c m d} (p:m=n.length) (f:rb w0 c d n) :
    pT Tryz.prog 169 #[vS c m d] w0 (fun v w=>v=.agg #[vI r.bh,vI r.pU,vI r.qc]∧St w0 [] w []):=by
 subst p;unfold wQ at h;refine pT.fn Tryz.func169 fun e=>?_;have K:=St.start w0;refine go ?_;refine LW.al K fun H an L=>?_;refine go ?_;refine LW.u (pY.build (vs:=[]) (cs:=#[vI 0,vI 0,vI 0]) rfl (by kernel_rfl)) rfl ?_;refine LW.al L fun I ao M=>?_;refine LW.st M 0 fun ap q=>?_;refine gb h fun au U h=>?_;refine LW.c0 (xK U rfl (q.rB f)) q fun aq s=>?_;refine gc h ?_ ?_ <;> intro _ h
 · refine go ?_;refine LW.st s 1 fun ar t=>?_;refine go ?_;cases h;exact And.intro trivial ⟨_,rG.one (pP.b t 1 rfl r9 rfl rfl),rfl,t.pk []⟩
 refine go ?_;obtain ⟨ab,B,J⟩:=ob h;refine CW.ie B 0 (fun a e wb=>En e [(2,.pointer (some ⟨H,0,none⟩)),(3,.pointer (some ⟨I,0,none⟩)),(11,vS c n.length d),(12,vI (n.length:Int)),(13,vI a.1)]∧St w0 [] wb [bx I 35 [vI a.2.1,vI a.2.2.1,vI a.2.2.2],bx H 35 [vI 0,vI 0,vI 0]]) ?_ (s.po [0,1]) ?_
 · intro a e ac o hM h;obtain ⟨hE,i⟩:=hM;obtain ⟨e,rfl⟩:=hE.out;refine gc h ?_ ?_ <;> intro _ h
   · refine gb h fun ak C h=>?_;obtain ⟨Y,aa,V,rfl,k,W,X,rfl,A⟩:=f.idx C;refine go ?_;refine LW.l (pZ.rh w0 CE rfl rfl (fun j u hu=>A j u hu)) (i.same _ k.1 k.2) rfl ?_;refine LW.al i fun Z ad O=>?_;refine LW.st O 0 fun ae R=>?_;refine gb h fun am G h=>?_;refine LW.c0 (vb G) R fun af x=>?_;refine LW.st x 1 fun ah y=>?_;refine go ?_;cases oi h;exact ⟨rfl,(y.po [1,2])⟩
   refine go ?_;cases oi h;exact ⟨trivial,rfl,(i.po [0,1])⟩
 rintro e ai ⟨hE,z⟩;obtain ⟨e,rfl⟩:=hE.out;have h:=J;refine go ?_;refine LW.st z 1 fun aj g=>?_;refine go ?_;cases h;exact And.intro trivial ⟨_,rG.one (pP.b g 1 rfl r9 rfl rfl),rfl,g.pk []⟩
theorem Gg {w0 N ak av G r} (h:xc N ak av G=some r) {k z n} (C:z=ak.length) (a:rb w0 k n ak) :
    pT Tryz.prog 89 #[vS k z n,vI av,.agg #[vI G.bh,vI G.pU,vI G.qc]] w0 (fun v w=>∃ H I,v=.tuple #[vS H r.1.length I,.bool r.2]∧St w0 [] w [sl H I r.1]):=by
 subst C;unfold xc at h;refine pT.fn Tryz.func89 fun e=>?_;have an:=St.start w0;refine go ?_;refine LW.bo an fun aW aX J=>?_;refine gb h fun aw ap h=>?_;refine LW.cl (vB ap rfl (J.rB a)) ?_;rintro _ aY ⟨ax,B,rfl,hs⟩;have K:=J.add hs;refine gs ?_;obtain ⟨aC,ao,az⟩:=ob h;refine CW.jn [0,1,5,8] [0,1] [(26,.bool aC)] K (h1:=?_) (h2:=?_)
 · have h:=ao;refine CW.draw (by kernel_rfl) ?_;have L:=K.drew;refine gb h fun aZ aq h=>?_;refine jO 1 ?_;refine LW.cl (xK aq rfl (L.rB a)) ?_;rintro _ aG ⟨rfl,hs⟩;have M:=L.add hs;refine jN jZ ?_;refine gB h ?_ ?_ <;> intro Z h
   · refine go ?_;cases oi h;exact M.po [0,1]
   refine gb h fun aP ad h=>?_;refine jO 5 ?_;refine (LW.gY (rS rfl rfl Z) ?_);refine LW.cl (s4 ad) ?_;rintro _ aH ⟨rfl,hs⟩;have q:=M.add hs;refine jN (jW jZ) ?_;refine gB h ?_ ?_ <;> intro f h
   · refine go ?_;cases oi h;exact q.po [0,1]
   refine gb h fun aQ ae h=>?_;refine jO 10 ?_;refine (LW.gY (rS rfl rfl f) ?_);refine LW.cl (Du ae rfl (q.rB a)) ?_;rintro _ aI ⟨rfl,hs⟩;have s:=q.add hs;refine jN (.c (s.ce 1) (.c (s.ce 1) jZ)) ?_;have ⟨aR,af,h⟩:=ob h;refine jO 12 ?_;refine (LW.gY (rS rfl rfl f) ?_);refine LW.cl (vb af) ?_;rintro _ aJ ⟨rfl,hs⟩;have O:=s.add hs;refine jN (jW (.c (O.ce 1) jZ)) ?_;have ⟨aS,ah,h⟩:=ob h;refine jO 13 ?_;refine (LW.gY (rS rfl rfl f) ?_);refine LW.cl (s4 ah) ?_;rintro _ aK ⟨rfl,hs⟩;have t:=O.add hs;refine jN (.c (t.ce 1) (.c (t.ce 1) jZ)) ?_;refine go ?_;cases oi h;exact t.po [0,1]
 intro e aL b;have h:=az;refine gc h ?_ ?_ <;> intro _ h
 · refine go ?_;cases h;exact Rc tt tt ⟨ax,B,rfl,b.pk [0]⟩
 refine gb h fun aT ai h=>?_;refine LW.c0 (vZ ai rfl (b.rB a)) b fun aM d=>?_;refine gs ?_;obtain ⟨ar,ab,am⟩:=ob h;refine CW.jn [5,8] [0,1] [(1,vI ar)] d (h1:=?_) (h2:=?_)
 · have h:=ab;refine gc h ?_ ?_ <;> intro _ h
   · refine go ?_;cases oi h;exact d.po [0,1]
   refine go ?_;cases oi h;exact d.po [0,1]
 intro e au U;have h:=am;refine go ?_;refine CW.draw (by kernel_rfl) ?_;have o:=U.drew;refine gb h fun aU g h=>?_;obtain ⟨l,A,hae,aA,aB⟩:=o.qi (α:=pW) (i:=0) rfl g;subst hae;refine go ?_;obtain ⟨aD,x,p⟩:=o.freeze (α:=pW) 0 rfl;obtain ⟨aE,aF,ay,hae,Y,_,_,aa,ac⟩:=x.r6.idx g;cases hae;obtain rfl:=aa;refine AW.take (i:=6) rfl (by kernel_rfl) rfl rfl (pZ.rh au.drew r9 rfl rfl (fun j u hu=>sT (m:=3) ac 2 hu)) (p.zC 0 rfl Y) ?_;refine gb h fun aV aj h=>?_;refine jO 8 ?_;refine LW.cl (vb aj) ?_;rintro _ aN ⟨rfl,hs⟩;have V:=p.add hs;refine jN (jW (jW jZ)) ?_;refine go ?_;have W:=V.qK (α:=pW) 0 rfl x;have ⟨R,y,h⟩:=ob h;refine jO 11 ?_;refine LW.se 2 W 0 g y (hM:=(rE (fun w cs F hF=>by obtain ⟨rfl,rfl⟩:=hF;exact ⟨rfl,rfl⟩))) fun aO X=>?_;refine jN (jW (jW jZ)) ?_;refine go ?_;replace h:=oi h;subst h;exact Rc tt tt ⟨(some ⟨l,A,none⟩),B,(show (.tuple #[vS (some ⟨l,A,none⟩) aw.length B,.bool true]:Value)=.tuple #[vS (some ⟨l,A,none⟩) R.length B,.bool true] by rw [show aw.length=R.length from (pO (oi y))]),X.pk [0]⟩
end Go.Kx
