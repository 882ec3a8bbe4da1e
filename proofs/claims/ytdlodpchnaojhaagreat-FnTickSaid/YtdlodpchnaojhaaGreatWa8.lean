/- Each call returns what the plain function says. Printed by drive.py. -/
import Derived.Test.YtdlodpchnaojhaaGreatFa
import Derived.Test.YtdlodpchnaojhaaGreatPu
import Derived.Test.YtdlodpchnaojhaaGreatWa5
import Derived.Test.YtdlodpchnaojhaaGreatWa6
import Derived.Test.YtdlodpchnaojhaaGreatWa7
namespace Go.Kx
open Go Go.RowKit Go.Proofs
set_option maxRecDepth 10000
set_option maxHeartbeats 8000000
set_option linter.unusedVariables false
set_option linter.unusedSimpArgs false
theorem A4 {w0 N a r} (h:sI N a=some r) {k q n} (A:q=a.il.length) (g:rb w0 k n a.il) {l s o} (B:s=a.data.length) (i:rb w0 l o a.data) {m t p} (C:t=a.queue.length) (j:rb w0 m p a.queue) :
    iq Tryz.prog 293 #[.agg #[vI a.gen,vI a.kind,vI a.box,vI a.res,vI a.iU,vI a.bh,vI a.wait,vI a.iW,vI a.iR,.bool a.mark,vS k q n,vS l s o,vS m t p]] w0 (fun v w=>v=.bool r∧St w0 [] w []):=by
 subst A B C;unfold sI at h;refine iq.fn Tryz.func293 fun e=>?_;have ak:=St.start w0;refine go ?_;refine LW.bo ak fun aV aW G=>?_;refine gs ?_;obtain ⟨aw,ao,av⟩:=ob h;refine CW.jn [1] [0] [(12,.bool aw)] G (h1:=?_) (h2:=?_)
 · have h:=ao;refine gb h fun aZ ap h=>?_;refine LW.c0 (jE ap) G fun aX H=>?_;refine gB h ?_ ?_ <;> intro _ h
   · refine go ?_;cases oi h;exact H.po [0]
   refine gb h fun a0 aq h=>?_;refine go ?_;refine LW.c0 (jE aq) H fun aY am=>?_;refine go ?_;cases oi h;exact am.po [0]
 intro e f d;have h:=av;refine gc h ?_ ?_ <;> intro _ h
 · refine go ?_;cases h;exact fi d
 refine gc h ?_ ?_ <;> intro _ h
 · refine go ?_;refine LW.u (iD.build (vs:=[(0,vI a.gen)]) (cs:=#[vI a.gen,vI 0,vI 0,vI 0,vI 0,vI 0,vI 0,vI 0,vI 0,.bool false,vS none 0 0,vS none 0 0,vS none 0 0]) rfl (by kernel_rfl)) rfl ?_;have ⟨aK,W,h⟩:=ob h;refine LW.c0 (Dn W rfl (d.rB g) rfl (d.rB i) rfl (d.rB j) rfl (show jf (α:=Int) (jX f []) f none 0 [] from jf.nil _ _ _ _ (Nat.zero_le _)) rfl (show jf (α:=Int) (jX f []) f none 0 [] from jf.nil _ _ _ _ (Nat.zero_le _)) rfl (show jf (α:=jI) (jX f []) f none 0 [] from jf.nil _ _ _ _ (Nat.zero_le _))) d fun ax an=>?_;refine go ?_;cases h;exact fi an
 refine gs ?_;obtain ⟨ar,U,ai⟩:=ob h;refine CW.jn [1] [0] [(47,.bool ar)] d (h1:=?_) (h2:=?_)
 · have h:=U;refine gb h fun aL X h=>?_;refine LW.c0 (jE X) d fun ay I=>?_;refine gB h ?_ ?_ <;> intro _ h
   · refine go ?_;cases oi h;exact I.po [0]
   refine gb h fun aM Y h=>?_;refine go ?_;refine LW.c0 (tS Y) I fun az J=>?_;refine gB h ?_ ?_ <;> intro _ h
   · refine go ?_;cases oi h;exact J.po [0]
   refine gb h fun aN Z h=>?_;refine go ?_;refine LW.c0 (nR Z) J fun aA K=>?_;refine gB h ?_ ?_ <;> intro _ h
   · refine go ?_;cases oi h;exact K.po [0]
   refine go ?_;have ⟨aO,aa,h⟩:=ob h;refine go ?_;refine LW.c0 (jE aa) K fun aB c=>?_;refine gB h ?_ ?_ <;> intro _ h
   · refine go ?_;cases oi h;exact c.po [0]
   refine gb h fun aP ab h=>?_;refine go ?_;refine LW.c0 (DL ab rfl (c.rB g) rfl (c.rB i) rfl (c.rB j)) c fun aC L=>?_;refine go ?_;cases oi h;exact L.po [0]
 intro e aD b;have h:=ai;refine gc h ?_ ?_ <;> intro _ h
 · refine go ?_;cases h;exact fi b
 refine gc h ?_ ?_ <;> intro _ h
 · refine gs ?_;obtain ⟨au,V,aj⟩:=ob h;refine CW.jn [] [] [(2,.bool au)] b (h1:=?_) (h2:=?_)
   · have h:=V;refine gB h ?_ ?_ <;> intro _ h
     · refine gB h ?_ ?_ <;> intro _ h
       · refine go ?_;cases oi h;exact b.po []
       refine go ?_;cases oi h;exact b.po []
     refine go ?_;cases oi h;exact b.po []
   intro e aE M;have h:=aj;refine go ?_;cases h;exact fi M
 refine gB h ?_ ?_ <;> intro _ h
 · refine gb h fun aQ ac h=>?_;refine go ?_;refine LW.c0 (jE ac) b fun aF x=>?_;refine gB h ?_ ?_ <;> intro _ h
   · refine go ?_;have ⟨aR,ad,h⟩:=ob h;refine go ?_;refine LW.c0 (nR ad) x fun aG O=>?_;refine go ?_;cases h;exact fi O
   refine go ?_;cases h;exact fi x
 refine gb h fun aS ae h=>?_;refine go ?_;refine LW.c0 (oI ae) b fun aH y=>?_;refine gB h ?_ ?_ <;> intro _ h
 · refine gb h fun aT af h=>?_;refine go ?_;refine LW.c0 (jE af) y fun aI z=>?_;refine go ?_;refine bH h ?_ ?_ <;> intro _ h
   · refine gb h fun aU ah h=>?_;refine go ?_;refine LW.c0 (nR ah) z fun aJ R=>?_;refine go ?_;cases h;exact fi R
   refine go ?_;cases h;exact fi z
 refine go ?_;cases h;exact fi y
theorem xt {w0 N a r} (h:oH N a=some r) {j C k} (H:C=a.ag.length) (q:rb w0 j k a.ag) {c G d} (I:G=a.gc.ia.length) (J:rb w0 c d a.gc.ia) :
    iq Tryz.prog 200 #[.agg #[vS j C k,vI a.gc.phase,vI a.gc.pos,vI a.gc.round,vS c G d]] w0 (fun v w=>∃ m o, ∃ n p,v=.agg #[vS m r.ag.length o,vI r.gc.phase,vI r.gc.pos,vI r.gc.round,vS n r.gc.ia.length p]∧St w0 [] w [sl m o r.ag,sl n p r.gc.ia]):=by
 subst H I;unfold oH at h;refine iq.fn Tryz.func200 fun e=>?_;have ac:=St.start w0;refine go ?_;refine LW.bo ac fun Y aB ad=>?_;refine LW.al ad fun ab aC ae=>?_;refine gs ?_;obtain ⟨am,ak,an⟩:=ob h;refine CW.cut (fun e wb=>∃ (l:Nat) (f:Ad) (g:Nat),En e [(1,.pointer (some ⟨Y,0,none⟩)),(2,.pointer (some ⟨ab,0,none⟩)),(3,.pointer (some ⟨l,0,none⟩))]∧St w0 [] wb [bx ab 40 [vS none 0 0,vI 0,vI 0,vI 0,vS none 0 0],bx Y 40 (qH j k c d a),bx l 40 [vS f am.length g,vI a.gc.phase,vI a.gc.pos,vI a.gc.round,vS c a.gc.ia.length d],sl f g am]) ?_ ?_
 · have h:=ak;refine CW.draw (by kernel_rfl) ?_;have B:=ae.drew;refine gb h fun K M h=>?_;refine AW.all (rs:=[2,6]) (by kernel_rfl) (by simp) ⟨?_,?_,trivial⟩
   · refine ⟨_,rfl,?_⟩;refine LW.cl (ur M rfl (B.rB q)) ?_;rintro _ ao ⟨s,x,rfl,hs⟩;have af:=B.add hs;refine jn ?_;refine AW.u (i:=5) rfl (by kernel_rfl) rfl rfl (iD.build (vs:=[(0,vS s K.length x),(1,.agg #[vI a.gc.phase,vI a.gc.pos,vI a.gc.round,vS c a.gc.ia.length d])]) (cs:=#[vS s K.length x,vI a.gc.phase,vI a.gc.pos,vI a.gc.round,vS c a.gc.ia.length d]) rfl (by kernel_rfl)) ?_;refine jO 6 ?_;refine LW.al af fun Z ap ah=>?_;refine jn ?_;refine jO 7 ?_;refine LW.st ah 0 fun aq ai=>?_;refine jn ?_;refine go ?_;cases oi h;exact ⟨Z,s,x,ai.po [2,3,0,1]⟩
   refine ⟨_,rfl,?_⟩;refine LW.al B fun aa ar L=>?_;refine jn ?_;refine jO 2 ?_;refine LW.cl (ur M rfl (L.rB q)) ?_;rintro _ au ⟨t,y,rfl,hs⟩;have aj:=L.add hs;refine jn ?_;refine AW.u (i:=5) rfl (by kernel_rfl) rfl rfl (iD.build (vs:=[(0,vS t K.length y),(1,.agg #[vI a.gc.phase,vI a.gc.pos,vI a.gc.round,vS c a.gc.ia.length d])]) (cs:=#[vS t K.length y,vI a.gc.phase,vI a.gc.pos,vI a.gc.round,vS c a.gc.ia.length d]) rfl (by kernel_rfl)) ?_;refine jO 7 ?_;refine LW.st aj 1 fun av O=>?_;refine jn ?_;refine go ?_;cases oi h;exact ⟨aa,t,y,O.po [2,3,1,0]⟩
 rintro e aw ⟨l,f,g,hE,z⟩;obtain ⟨e,rfl⟩:=hE.out;have h:=an;refine gb h fun aA V h=>?_;refine LW.cl (mL V rfl (z.rB J)) ?_;rintro _ ax ⟨W,X,rfl,hs⟩;have R:=z.add hs;refine go ?_;refine LW.st R 3 fun ay U=>?_;refine go ?_;refine LW.st U 1 fun az A=>?_;refine go ?_;cases h;exact And.intro trivial ⟨_,jB.one (ic.b A 1 rfl nD rfl rfl),f,g,W,X,rfl,A.pk [4,0]⟩
theorem DD {w0 N b c r} (h:r7 N b c=some r) :
    iq Tryz.prog 291 #[.agg #[vI b.bh,vI b.ib,vI b.ik],.agg #[vI c.bh,vI c.ib,vI c.ik]] w0 (fun v w=>v=.bool r∧St w0 [] w []):=by
 unfold r7 at h;refine iq.fn Tryz.func291 fun e=>?_;have f:=St.start w0;refine go ?_;refine LW.bo f fun l n g=>?_;refine LW.bo g fun m o i=>?_;refine gb h fun s j h=>?_;refine LW.c0 (nn j) i fun p d=>?_;refine gB h ?_ ?_ <;> intro _ h
 · refine gb h fun t k h=>?_;refine go ?_;refine LW.c0 (nn k) d fun q a=>?_;refine gB h ?_ ?_ <;> intro _ h
   · refine gB h ?_ ?_ <;> intro _ h
     · refine go ?_;refine bH h ?_ ?_ <;> intro _ h
       · refine go ?_;cases h;exact fi a
       refine go ?_;cases h;exact fi a
     refine go ?_;cases h;exact fi a
   refine go ?_;cases h;exact fi a
 refine go ?_;cases h;exact fi d
theorem vc {w0 N aP b r} (h:nu N aP b=some r) {aa ap ab} (av:ap=aP.length) (c:rb w0 aa ab aP) {d X j} (ah:X=b.il.length) (ak:rb w0 d j b.il) {f Y k} (ai:Y=b.data.length) (am:rb w0 f k b.data) {g Z m} (aj:Z=b.queue.length) (an:rb w0 g m b.queue) :
    iq Tryz.prog 244 #[vS aa ap ab,.agg #[vI b.gen,vI b.kind,vI b.box,vI b.res,vI b.iU,vI b.bh,vI b.wait,vI b.iW,vI b.iR,.bool b.mark,vS d X j,vS f Y k,vS g Z m]] w0 (fun v w=>∃ B K,v=.tuple #[vS B r.1.length K,vI r.2]∧St w0 [] w [sl B K r.1]):=by
 subst av ah ai aj;unfold nu at h;refine iq.fn Tryz.func244 fun e=>?_;have aW:=St.start w0;refine go ?_;refine LW.bo aW fun aT bT ay=>?_;refine gb h fun aq aZ h=>?_;refine LW.cl (uH aZ rfl (ay.rB c)) ?_;rintro _ bU ⟨aQ,U,rfl,hs⟩;have az:=ay.add hs;refine gb h fun bW a0 h=>?_;refine LW.c0 (oh a0 rfl (az.rB c)) az fun bV aA=>?_;refine gc h ?_ ?_ <;> intro _ h
 · refine go ?_;cases h;exact Rc tt tt ⟨aQ,U,rfl,aA.pk [0]⟩
 refine go ?_;obtain ⟨aC,aJ,ax⟩:=ob h;refine CW.mono (CW.lx [0,3,6] [0,1] [6] 0 (fun R=>[(7,vI R)]) (fun r x e wb=>x=.ret∧∃ u,u=r∧∃ v,jB Tryz.prog Tryz.f244.results e wb v∧∃ B K,v=.tuple #[vS B u.1.length K,vI u.2]∧St w0 [] wb [sl B K u.1]) aA aJ (hb:=?_)) ?_
 · intro R e bE o n h;refine go ?_;refine CW.fl [0,3,6,7,18] fun e=>?_;refine gc h ?_ ?_ <;> intro _ h
   · refine gs ?_;refine CW.block ?_;refine gs ?_;obtain ⟨a1,aG,aU⟩:=ob h;refine CW.jn [0,3,6,7] [0,1] [(34,.bool a1)] n (h1:=?_) (h2:=?_)
     · have h:=aG;refine gb h fun bQ aK h=>?_;obtain ⟨br,bB,a5,rfl,s,a7,ba,⟨bk,bt,bl,bu,bm,bv,rfl,bd,be,bf⟩,af⟩:=c.idx aK;refine go ?_;refine LW.l (iC.iP w0 jc rfl (af 1 _ rfl)) (n.same _ s.1 s.2) rfl ?_;refine gB h ?_ ?_ <;> intro _ h
       · refine go ?_;cases oi h;exact n.po [0,1]
       refine go ?_;refine LW.l (iC.iP w0 jc rfl (af 0 _ rfl)) (n.same _ s.1 s.2) rfl ?_;refine go ?_;cases oi h;exact n.po [0,1]
     intro e bF O;have h:=aU;refine gc h ?_ ?_ <;> intro _ h
     · refine go ?_;cases oi h;exact ⟨rfl,(O.po [0,1])⟩
     refine gb h fun a aL h=>?_;refine LW.cl (Bd aL rfl (O.rB ak) rfl (O.rB am) rfl (O.rB an)) ?_;rintro _ bG ⟨t,H,y,I,A,J,rfl,hs⟩;have aX:=O.add hs;refine LW.al aX fun aw bI aY=>?_;refine LW.st aY 0 fun bJ aB=>?_;refine gb h fun ar aM h=>?_;obtain ⟨bs,bC,a6,rfl,ae,a8,bb,⟨bn,bw,bp,bz,bq,bA,rfl,bg,bi,bj⟩,aI⟩:=c.idx aM;refine go ?_;refine LW.l (iC.iP w0 jc rfl (aI 0 _ rfl)) (aB.same _ ae.1 ae.2) rfl ?_;refine go ?_;refine LW.st aB 0 fun bK ac=>?_;refine gb h fun a3 ao h=>?_;obtain ⟨C,p,hae,a9,bc⟩:=ac.iJ (α:=cd) (i:=4) rfl ao;subst hae;refine go ?_;have aD:=ac.pk (M:=[sl t H a.il,sl y I a.data,sl A J a.queue]++[bx aw 160 [vI (IntKind.i64.wrap (ar.gen+1)),vI a.kind,vI a.box,vI a.res,vI a.iU,vI a.bh,vI a.wait,vI a.iW,vI a.iR,.bool a.mark,vS t a.il.length H,vS y a.data.length I,vS A a.queue.length J],sl (some ⟨C,p,none⟩) U aq,bx aT 160 (qO d j f k g m b)]) [1,2,3,0,4,5];have ⟨au,W,h⟩:=ob h;refine LW.yh (M:=[sl t H a.il,sl y I a.data,sl A J a.queue]) (L:=[bx aw 160 [vI (IntKind.i64.wrap (ar.gen+1)),vI a.kind,vI a.box,vI a.res,vI a.iU,vI a.bh,vI a.wait,vI a.iW,vI a.iR,.bool a.mark,vS t a.il.length H,vS y a.data.length I,vS A a.queue.length J],sl (some ⟨C,p,none⟩) U aq,bx aT 160 (qO d j f k g m b)]) (z:=a3) (z':=(cd.mk (IntKind.i64.wrap (ar.gen+1)) a.kind a.box a.res a.iU a.bh a.wait a.iW a.iR a.mark a.il a.data a.queue)) (o:=0) aD (i:=1) rfl ao kW rfl (by show _=p+(R:Int).toNat * 13+0;omega) rfl rfl rfl rfl (whole (fun w G hG=>⟨t,H,y,I,A,J,rfl,hG⟩)) ?_;intro bL q hf;rw [oi W] at q;refine gs ?_;obtain ⟨a2,aH,aV⟩:=ob h;refine CW.jn [0,6,7] [1] [(55,.bool a2)] q (h1:=?_) (h2:=?_)
     · have h:=aH;refine gb h fun bR aN h=>?_;refine LW.c0 (oh aN (show aq.length=au.length from (iM (oi W))) (q.rI 1 rfl)) q fun bM ad=>?_;refine gB h ?_ ?_ <;> intro _ h
       · refine go ?_;cases oi h;exact ad.po [1]
       refine go ?_;cases oi h;exact ad.po [1]
     intro e bN V;have h:=aV;refine go ?_;refine CW.fl [0,6,7,55] fun e=>?_;refine gc h ?_ ?_ <;> intro _ h
     · refine gb h fun bS aO h=>?_;refine LW.cl (uH aO rfl (V.rB c)) ?_;rintro _ bO ⟨aR,aS,rfl,hs⟩;have aE:=V.add hs;refine go ?_;cases oi h;exact ⟨trivial,rfl,_,rfl,ry tt tt ⟨aR,aS,rfl,aE.pk [0]⟩⟩
     refine go ?_;replace h:=oi h;subst h;exact ⟨trivial,rfl,_,rfl,ry tt tt ⟨(some ⟨C,p,none⟩),U,(show (.tuple #[vS (some ⟨C,p,none⟩) aq.length U,vI R]:Value)=.tuple #[vS (some ⟨C,p,none⟩) au.length U,vI R] by rw [show aq.length=au.length from (iM (oi W))]),V.pk [0]⟩⟩
   refine go ?_;cases oi h;exact ⟨trivial,rfl,(n.po [0,1])⟩
 intro x e bP hM;rcases aC with aC | bD
 · obtain ⟨rfl,hM⟩:=hM;obtain ⟨e,rfl,aF⟩:=eo hM;have h:=ax;refine go ?_;cases h;exact Rc tt tt ⟨aQ,U,rfl,aF.pk [0]⟩
 obtain ⟨rfl,u,rfl,hM⟩:=hM;cases ax;exact And.intro trivial hM
theorem uJ {w0 N j r} (h:nP N j=some r) {n H q} (K:H=j.ag.length) (M:rb w0 n q j.ag) {p I s} (L:I=j.gc.ia.length) (g:rb w0 p s j.gc.ia) :
    iq Tryz.prog 128 #[.agg #[vS n H q,vI j.gc.phase,vI j.gc.pos,vI j.gc.round,vS p I s]] w0 (fun v w=>v=.bool r∧St w0 [] w []):=by
 subst K L;unfold nP at h;refine iq.fn Tryz.func128 fun e=>?_;have aq:=St.start w0;refine go ?_;refine LW.bo aq fun a3 a5 ar=>?_;refine go ?_;refine LW.al ar fun a4 a6 au=>?_;refine LW.st au 0 fun a7 B=>?_;refine gs ?_;obtain ⟨aE,aw,aB⟩:=ob h;refine CW.jn [3] [0] [(22,.bool aE)] B (h1:=?_) (h2:=?_)
 · have h:=aw;refine gb h fun a9 ax h=>?_;refine LW.c0 (oh ax rfl (B.rB M)) B fun a8 R=>?_;refine gB h ?_ ?_ <;> intro _ h
   · refine go ?_;cases oi h;exact R.po [0]
   refine gb h fun aV af h=>?_;refine go ?_;refine LW.c0 (ji af) R fun aK U=>?_;refine gB h ?_ ?_ <;> intro _ h
   · refine go ?_;cases oi h;exact U.po [0]
   refine gb h fun aW ah h=>?_;refine go ?_;refine LW.c0 (ji ah) U fun aL av=>?_;refine go ?_;cases oi h;exact av.po [0]
 intro e aM d;have h:=aB;refine gc h ?_ ?_ <;> intro _ h
 · refine go ?_;cases h;exact fi d
 refine gs ?_;obtain ⟨ay,ab,ao⟩:=ob h;refine CW.jn [3] [0] [(47,.bool ay)] d (h1:=?_) (h2:=?_)
 · have h:=ab;refine gB h ?_ ?_ <;> intro _ h
   · refine gB h ?_ ?_ <;> intro _ h
     · refine go ?_;cases oi h;exact d.po [0]
     refine gB h ?_ ?_ <;> intro _ h
     · refine gb h fun aX ai h=>?_;refine go ?_;refine LW.c0 (nQ ai) d fun aN V=>?_;refine go ?_;refine bH h ?_ ?_ <;> intro _ h
       · refine go ?_;cases oi h;exact V.po [0]
       refine go ?_;cases oi h;exact V.po [0]
     refine go ?_;cases oi h;exact d.po [0]
   refine gB h ?_ ?_ <;> intro _ h
   · refine gb h fun aY aj h=>?_;refine go ?_;refine LW.c0 (nQ aj) d fun aO t=>?_;refine go ?_;refine bH h ?_ ?_ <;> intro _ h
     · refine go ?_;cases oi h;exact t.po [0]
     refine go ?_;cases oi h;exact t.po [0]
   refine go ?_;cases oi h;exact d.po [0]
 intro e aP y;have h:=ao;refine gc h ?_ ?_ <;> intro _ h
 · refine go ?_;cases h;exact fi y
 refine go ?_;obtain ⟨W,ad,O⟩:=ob h;refine CW.mono (CW.lx [3] [0] [] 0 (fun X=>[(4,vI X)]) (RT Tryz.prog Tryz.f128.results (fun u=>.bool u) w0 []) y ad (hb:=?_)) ?_
 · intro X e aQ o k h;refine gc h ?_ ?_ <;> intro _ h
   · refine gs ?_;refine CW.block ?_;refine gs ?_;obtain ⟨az,ac,ap⟩:=ob h;refine CW.jn [3,4] [0] [(73,.bool az)] k (h1:=?_) (h2:=?_)
     · have h:=ac;refine CW.draw (by kernel_rfl) ?_;have z:=k.drew;refine gb h fun aZ ak h=>?_;obtain ⟨aG,aI,aA,rfl,a,aC,aD,rfl,C⟩:=g.idx ak;refine go ?_;refine AW.take (i:=4) rfl (by kernel_rfl) rfl rfl (iC.iP w0 jc rfl (C 0 _ rfl)) (z.same _ a.1 a.2) ?_;have ⟨a0,am,h⟩:=ob h;refine jO 5 ?_;refine LW.cl (nQ am) ?_;rintro _ aR ⟨rfl,hs⟩;have f:=z.add hs;refine jn ?_;refine gB h ?_ ?_ <;> intro m h
       · refine go ?_;cases oi h;exact f.po [0]
       refine gb h fun a1 G h=>?_;obtain ⟨aF,aH,Z,aa,ae⟩:=jf.tA g G;have J:=(g).le;refine AW.u (i:=11) rfl (by kernel_rfl) (jP rfl rfl m) rfl (iD.sub (α:=Int) (l:=j.gc.ia) Tryz.underlying32 CE rfl uk (uu rfl) G J Z aa) ?_;refine go ?_;refine AW.take (i:=16) rfl (by kernel_rfl) (jP rfl rfl m) rfl (iC.iP w0 jc rfl (C 0 _ rfl)) (f.same _ a.1 a.2) ?_;have ⟨a2,an,h⟩:=ob h;refine jO 17 ?_;refine (LW.gY (jP rfl rfl m) ?_);refine LW.cl (qd an rfl (f.rB ae)) ?_;rintro _ aS ⟨rfl,hs⟩;have b:=f.add hs;refine jN (jW (.c (b.ce 0) (.c (b.ce 0) (.c (b.same _ a.1 a.2) (.c (b.ce 0) jZ))))) ?_;refine go ?_;cases oi h;exact b.po [0]
     intro e aT A;have h:=ap;refine gc h ?_ ?_ <;> intro _ h
     · refine go ?_;cases oi h;exact ⟨trivial,rfl,_,rfl,rx ⟨rfl,A.pk []⟩⟩
     refine go ?_;cases oi h;exact ⟨rfl,(A.po [0])⟩
   refine go ?_;cases oi h;exact ⟨trivial,rfl,⟨trivial,k.pk [0]⟩⟩
 intro x e aU hM;rcases W with W | aJ
 · obtain ⟨rfl,hM⟩:=hM;obtain ⟨e,rfl,Y⟩:=eo hM;rw [show e=iQ e [] from rfl];have h:=O;refine go ?_;cases h;exact fi Y
 obtain ⟨rfl,u,rfl,hM⟩:=hM;cases O;exact And.intro trivial hM
theorem Dp {w0 N m r} (h:rO N m=some r) {c g d} (i:g=m.length) (a:rb w0 c d m) :
    iq Tryz.prog 219 #[vS c g d] w0 (fun v w=>v=.agg #[vI r.bh,vI r.ib,vI r.ik]∧St w0 [] w []):=by
 subst i;unfold rO at h;refine iq.fn Tryz.func219 fun e=>?_;have n:=St.start w0;refine go ?_;refine LW.al n fun s t j=>?_;refine gb h fun B p h=>?_;refine LW.c0 (uD p rfl (j.rB a)) j fun x f=>?_;refine gc h ?_ ?_ <;> intro _ h
 · refine go ?_;refine LW.u (iD.build (vs:=[]) (cs:=#[vI 0,vI 0,vI 0]) rfl (by kernel_rfl)) rfl ?_;refine LW.st f 0 fun y k=>?_;refine go ?_;cases h;exact And.intro trivial ⟨_,jB.one (ic.b k 0 rfl kt rfl rfl),rfl,k.pk []⟩
 refine gb h fun C q h=>?_;refine LW.c0 (vv q rfl (f.rB a)) f fun z o=>?_;refine LW.st o 0 fun A l=>?_;refine go ?_;cases h;exact And.intro trivial ⟨_,jB.one (ic.b l 0 rfl kt rfl rfl),rfl,l.pk []⟩
theorem tb {w0 N n s r} (h:m8 N n s=some r) {b g c} (i:g=n.length) (a:rb w0 b c n) :
    iq Tryz.prog 154 #[vS b g c,vI s] w0 (fun v w=>v=.bool r∧St w0 [] w []):=by
 subst i;unfold m8 at h;refine iq.fn Tryz.func154 fun e=>?_;have j:=St.start w0;refine gb h fun C o h=>?_;refine LW.c0 (uD o rfl (j.rB a)) j fun A k=>?_;refine gB h ?_ ?_ <;> intro _ h
 · refine gb h fun G p h=>?_;refine go ?_;refine LW.c0 (nW p) k fun B d=>?_;refine gB h ?_ ?_ <;> intro _ h
   · refine gb h fun H q h=>?_;obtain ⟨u,z,t,rfl,f,x,y,rfl,m⟩:=a.idx q;refine go ?_;refine LW.l (iC.iP w0 qI rfl (m 0 _ rfl)) (d.same _ f.1 f.2) rfl ?_;refine go ?_;cases h;exact fi d
   refine go ?_;cases h;exact fi d
 refine go ?_;cases h;exact fi k
theorem zk {w0 N a c r} (h:tw N a c=some r) :
    iq Tryz.prog 304 #[.agg #[vI a.bh,vI a.ib,vI a.ik],.agg #[vI c.bh,vI c.ib,vI c.ik]] w0 (fun v w=>v=.tuple #[.agg #[vI r.1.bh,vI r.1.ib,vI r.1.ik],.bool r.2]∧St w0 [] w []):=by
 unfold tw at h;refine iq.fn Tryz.func304 fun e=>?_;have i:=St.start w0;refine go ?_;refine LW.bo i fun p t j=>?_;refine LW.bo j fun q x k=>?_;refine LW.al k fun s y l=>?_;refine gb h fun A m h=>?_;refine LW.c0 (DH m) l fun z d=>?_;refine gc h ?_ ?_ <;> intro _ h
 · refine go ?_;refine LW.st d 0 fun n f=>?_;refine go ?_;cases h;exact Rc (ic.b f 0 rfl kt rfl rfl) tt ⟨rfl,f.pk []⟩
 refine go ?_;refine LW.u (iD.build (vs:=[(0,vI (IntKind.i64.wrap (a.bh - c.bh))),(1,vI (IntKind.i64.wrap (a.ib - c.ib))),(2,vI (IntKind.i64.wrap (a.ik - c.ik)))]) (cs:=#[vI (IntKind.i64.wrap (a.bh - c.bh)),vI (IntKind.i64.wrap (a.ib - c.ib)),vI (IntKind.i64.wrap (a.ik - c.ik))]) rfl (by kernel_rfl)) rfl ?_;refine LW.st d 0 fun o g=>?_;refine go ?_;cases h;exact Rc (ic.b g 0 rfl kt rfl rfl) tt ⟨rfl,g.pk []⟩
theorem Bg {w0 N X aA r} (h:qh N X aA=some r) {k A m} (I:A=X.length) (d:rb w0 k m X) :
    iq Tryz.prog 303 #[vS k A m,vI aA] w0 (fun v w=>∃ Y Z,v=vS Y r.length Z∧St w0 [] w [sl Y Z r]):=by
 subst I;unfold qh at h;refine iq.fn Tryz.func303 fun e=>?_;have aE:=St.start w0;refine go ?_;refine LW.jV (α:=Int) (vs:=[]) (cs:=#[]) (l:=([]:List Int)) rfl (by kernel_rfl) rfl rfl rfl (fun w=>rfl) aE rfl ?_;intro aB aC cB s hf;refine gs ?_;obtain ⟨bB,aI,bf⟩:=ob h;refine CW.jn [0,1,5] [0] [(23,.bool bB)] s (h1:=?_) (h2:=?_)
 · have h:=aI;refine gb h fun cD aJ h=>?_;refine LW.c0 (oh aJ rfl (s.rB d)) s fun cC aa=>?_;refine gB h ?_ ?_ <;> intro _ h
   · refine go ?_;cases oi h;exact aa.po [0]
   refine gb h fun cE aK h=>?_;refine go ?_;refine LW.c0 (nQ aK) aa fun co t=>?_;refine gB h ?_ ?_ <;> intro _ h
   · refine go ?_;cases oi h;exact t.po [0]
   refine gb h fun cu ar h=>?_;obtain ⟨b2,ck,bb,rfl,u,bg,bl,⟨bQ,b6,bR,b7,bS,b8,rfl,bp,bq,br⟩,an⟩:=d.idx ar;refine go ?_;refine LW.l (iC.iP w0 jc rfl (an 1 _ rfl)) (t.same _ u.1 u.2) rfl ?_;refine go ?_;cases oi h;exact t.po [0]
 intro e cp ab;have h:=bf;refine gc h ?_ ?_ <;> intro _ h
 · refine go ?_;cases h;exact Ra ⟨aB,aC,rfl,ab.pk [0]⟩
 refine go ?_;obtain ⟨bE,J,ae⟩:=ob h;refine CW.ie J 0 (fun f e wb=>∃ (b:Ad) (c:Nat),En e [(0,vS k X.length m),(1,vI aA),(5,vS b f.1.length c),(6,vI f.2)]∧St w0 [] wb [sl b c f.1]) ?_ ⟨aB,aC,ab.po [0]⟩ ?_
 · intro f e cq o hM h;obtain ⟨b,c,hE,a⟩:=hM;obtain ⟨e,rfl⟩:=hE.out;refine gc h ?_ ?_ <;> intro _ h
   · refine gs ?_;refine CW.block ?_;refine gs ?_;obtain ⟨aL,am,aD⟩:=ob h;refine CW.jn [0,1,5,6] [0] [(66,.bool aL)] a (h1:=?_) (h2:=?_)
     · have h:=am;refine gB h ?_ ?_ <;> intro _ h
       · refine gb h fun cv au h=>?_;obtain ⟨b3,cl,bc,rfl,g,bi,bm,⟨bT,b9,bU,ca,bV,cb,rfl,bs,bt,bu⟩,y⟩:=d.idx au;refine go ?_;refine LW.l (iC.iP w0 jc rfl (y 1 _ rfl)) (a.same _ g.1 g.2) rfl ?_;refine gB h ?_ ?_ <;> intro _ h
         · refine go ?_;refine LW.l (iC.iP w0 jc rfl (y 2 _ rfl)) (a.same _ g.1 g.2) rfl ?_;refine gB h ?_ ?_ <;> intro _ h
           · refine gb h fun cw av h=>?_;obtain ⟨b4,cm,bd,hae,j,bj,bn,aj,z⟩:=d.idx av;cases hae;obtain ⟨bW,cc,bX,ce,bY,cf,rfl,ap,bv,bw⟩:=aj;refine go ?_;refine LW.l (iC.iP w0 jc rfl (z 1 _ rfl)) (a.same _ j.1 j.2) rfl ?_;refine gB h ?_ ?_ <;> intro _ h
             · refine go ?_;cases oi h;exact a.po [0]
             refine go ?_;refine LW.l (iC.iP w0 nE rfl (z 10 _ rfl)) (a.same _ j.1 j.2) rfl ?_;refine gb h fun cx aw h=>?_;refine go ?_;refine LW.c0 (qd aw rfl (a.rB ap)) a fun cr aF=>?_;refine go ?_;cases oi h;exact aF.po [0]
           refine gb h fun cy ax h=>?_;obtain ⟨b5,cn,be,hae,x,bk,bo,ak,ao⟩:=d.idx ax;cases hae;obtain ⟨bZ,cg,b0,ci,b1,cj,rfl,aq,bz,bA⟩:=ak;refine go ?_;refine LW.l (iC.iP w0 nE rfl (ao 10 _ rfl)) (a.same _ x.1 x.2) rfl ?_;refine gb h fun cz ay h=>?_;refine go ?_;refine LW.c0 (qd ay rfl (a.rB aq)) a fun ct aG=>?_;refine go ?_;cases oi h;exact aG.po [0]
         refine go ?_;have ⟨cA,az,h⟩:=ob h;obtain ⟨a3,bC,aM,hae,n,aO,aQ,B,C⟩:=d.idx az;cases hae;obtain ⟨aW,a5,aX,a6,aY,a7,rfl,K,aS,aT⟩:=B;refine go ?_;refine LW.l (iC.iP w0 nE rfl (C 10 _ rfl)) (a.same _ n.1 n.2) rfl ?_;refine gb h fun bM R h=>?_;refine go ?_;refine LW.c0 (qd R rfl (a.rB K)) a fun bG aH=>?_;refine go ?_;cases oi h;exact aH.po [0]
       refine go ?_;have ⟨bN,U,h⟩:=ob h;obtain ⟨a4,bD,aN,rfl,p,aP,aR,⟨aZ,a8,a0,a9,a2,ba,rfl,O,aU,aV⟩,H⟩:=d.idx U;refine go ?_;refine LW.l (iC.iP w0 nE rfl (H 10 _ rfl)) (a.same _ p.1 p.2) rfl ?_;refine gb h fun bO V h=>?_;refine go ?_;refine LW.c0 (qd V rfl (a.rB O)) a fun bI af=>?_;refine go ?_;cases oi h;exact af.po [0]
     intro e bJ q;have h:=aD;refine gc h ?_ ?_ <;> intro _ h
     · refine gb h fun bP W h=>?_;refine LW.lj (M:=[]) (L:=[sl b c f.1]) (vs:=#[vI f.2]) (i:=0) mT rfl (by kernel_rfl) rfl rfl W q rfl (fun w G hG=>by cases (show G=[] from hG);exact ⟨rfl,rfl⟩) rfl rfl ?_;intro bF ac ad bK ah hf;refine go ?_;cases oi h;exact ⟨rfl,⟨ac,ad,ah.po [0]⟩⟩
     refine go ?_;cases oi h;exact ⟨rfl,⟨b,c,q.po [0]⟩⟩
   refine go ?_;cases oi h;exact ⟨trivial,rfl,⟨b,c,a.po [0]⟩⟩
 rintro e bL ⟨b,c,hE,ai⟩;obtain ⟨e,rfl⟩:=hE.out;have h:=ae;refine go ?_;cases h;exact Ra ⟨b,c,rfl,ai.pk [0]⟩
theorem w6 {w0 N a9 Y r} (h:nH N a9 Y=some r) {Z ao aa} (az:ao=a9.length) (m:rb w0 Z aa a9) :
    iq Tryz.prog 313 #[vS Z ao aa,vI Y] w0 (fun v w=>∃ aG aH,v=.tuple #[vS aG r.1.length aH,.bool r.2]∧St w0 [] w [sl aG aH r.1]):=by
 subst az;unfold nH at h;refine iq.fn Tryz.func313 fun e=>?_;have aI:=St.start w0;refine gb h fun aF bg h=>?_;refine LW.cl (uH bg rfl (aI.rB m)) ?_;rintro _ cU ⟨bv,d,rfl,hs⟩;have ac:=aI.add hs;refine gs ?_;obtain ⟨b0,bf,bF⟩:=ob h;refine CW.jn [0,1,6] [0] [(26,.bool b0)] ac (h1:=?_) (h2:=?_)
 · have h:=bf;refine gb h fun cW bi h=>?_;refine LW.c0 (oh bi rfl (ac.rB m)) ac fun cV aJ=>?_;refine gB h ?_ ?_ <;> intro _ h
   · refine go ?_;cases oi h;exact aJ.po [0]
   refine gb h fun cR a6 h=>?_;refine go ?_;refine LW.c0 (ji a6) aJ fun cM ae=>?_;refine gB h ?_ ?_ <;> intro _ h
   · refine go ?_;cases oi h;exact ae.po [0]
   refine gb h fun cS a7 h=>?_;obtain ⟨ct,cH,bC,rfl,af,bG,bM,⟨ci,cy,cj,cz,ck,cA,rfl,bR,bS,bT⟩,a4⟩:=m.idx a7;refine go ?_;refine LW.l (iC.iP w0 jc rfl (a4 1 _ rfl)) (ae.same _ af.1 af.2) rfl ?_;refine go ?_;cases oi h;exact ae.po [0]
 intro e cN V;have h:=bF;refine gc h ?_ ?_ <;> intro _ h
 · refine go ?_;cases h;exact Rc tt tt ⟨bv,d,rfl,V.pk [0]⟩
 refine gb h fun aq a8 h=>?_;obtain ⟨cu,cI,bD,rfl,ah,bI,bN,⟨cm,cB,cn,cC,co,cD,rfl,bU,bV,bW⟩,a5⟩:=m.idx a8;refine go ?_;refine LW.l (iC.iP w0 jc rfl (a5 0 _ rfl)) (V.same _ ah.1 ah.2) rfl ?_;refine LW.u (iD.build (vs:=[(0,vI aq.gen)]) (cs:=#[vI aq.gen,vI 0,vI 0,vI 0,vI 0,vI 0,vI 0,vI 0,vI 0,.bool false,vS none 0 0,vS none 0 0,vS none 0 0]) rfl (by kernel_rfl)) rfl ?_;have ⟨bj,ak,h⟩:=ob h;obtain ⟨c,b,hae,bJ,bO⟩:=V.iJ (α:=cd) (i:=0) rfl ak;subst hae;refine go ?_;have bb:=V.nil (α:=Int);have bc:=bb.nil (α:=Int);have bd:=bc.nil (α:=jI);have be:=bd.pk (M:=[sl none 0 [],sl none 0 [],sl none 0 []]++[sl (some ⟨c,b,none⟩) d aF]) [2,1,0,3];have ⟨aM,am,h⟩:=ob h;refine LW.yh (M:=[sl none 0 [],sl none 0 [],sl none 0 []]) (L:=[sl (some ⟨c,b,none⟩) d aF]) (z:=bj) (z':=(cd.mk aq.gen 0 0 0 0 0 0 0 0 false [] [] [])) (o:=0) be (i:=0) rfl ak kW rfl (by show _=b+(Y:Int).toNat * 13+0;omega) rfl rfl rfl rfl (whole (fun w G hG=>⟨none,0,none,0,none,0,rfl,hG⟩)) ?_;intro cO ab hf;rw [oi am] at ab;refine go ?_;obtain ⟨b3,aD,aP⟩:=ob h;refine CW.ie aD 0 (fun f e wb=>En e [(1,vI Y),(6,vS (some ⟨c,b,none⟩) f.1.length d),(7,vI f.2)]∧St w0 [] wb [sl (some ⟨c,b,none⟩) d f.1]) ?_ ⟨⟨rfl,(show (vS (some ⟨c,b,none⟩) aF.length d:Value)=vS (some ⟨c,b,none⟩) aM.length d by rw [show aF.length=aM.length from (iM (oi am))]),rfl,trivial⟩,ab.pk [0]⟩ ?_
 · intro f e aL o hM h;obtain ⟨e,rfl,K⟩:=eo hM;refine go ?_;refine CW.fl [1,6,7,40] fun e=>?_;refine gc h ?_ ?_ <;> intro _ h
   · refine gb h fun cT R h=>?_;obtain ⟨cv,cJ,hae,bK,bP⟩:=K.iJ (α:=cd) (i:=0) rfl R;cases hae;refine go ?_;obtain ⟨cf,H,n⟩:=K.freeze (α:=cd) 0 rfl;obtain ⟨cw,cK,bE,hae,ai,_,_,a1,aj⟩:=H.kr.idx R;cases hae;obtain ⟨cp,cE,cq,cF,cr,cG,rfl,bX,bY,bZ⟩:=a1;refine LW.l (iC.iP aL jc rfl (aj 1 _ rfl)) (n.zC 0 rfl ai) rfl ?_;refine gc h ?_ ?_ <;> intro _ h
     · refine go ?_;have aQ:=n.jj (α:=cd) 0 rfl H;cases oi h;exact ⟨rfl,(aQ.po [0])⟩
     refine go ?_;refine LW.l (iC.iP aL jc rfl (aj 2 _ rfl)) (n.zC 0 rfl ai) rfl ?_;refine gs ?_;obtain ⟨aK,a3,ba⟩:=ob h;refine CW.cut (fun e wb=>En e [(1,vI Y),(6,vS (some ⟨c,b,none⟩) aK.length d),(7,vI f.2)]∧St w0 [] wb [sl (some ⟨c,b,none⟩) d aK]) ?_ ?_
     · have h:=a3;refine CW.fl [1,6,7,55] fun e=>?_;refine gc h ?_ ?_ <;> intro _ h
       · refine go ?_;have aR:=n.jj (α:=cd) 0 rfl H;have ⟨aN,an,h⟩:=ob h;refine LW.se 2 aR 0 R an (hM:=(kq (fun w cs F hF=>by obtain ⟨b4,b7,b5,b8,b6,b9,rfl,hH⟩:=hF;exact ⟨b4,b7,b5,b8,b6,b9,rfl,hH⟩))) fun cP aS=>?_;refine go ?_;replace h:=oi h;subst h;exact ⟨⟨rfl,(show (vS (some ⟨c,b,none⟩) f.1.length d:Value)=vS (some ⟨c,b,none⟩) aN.length d by rw [show f.1.length=aN.length from (iM (oi an))]),rfl,trivial⟩,aS.pk [0]⟩
       refine go ?_;have aT:=n.jj (α:=cd) 0 rfl H;cases oi h;exact aT.po [0]
     rintro e cQ ⟨hE,aU⟩;obtain ⟨e,rfl⟩:=hE.out;have h:=ba;refine go ?_;obtain ⟨b2,aC,aO⟩:=ob h;refine CW.ie aC 2 (fun k e wb=>En e [(1,vI Y),(6,vS (some ⟨c,b,none⟩) k.1.length d),(7,vI f.2),(8,vI k.2)]∧St w0 [] wb [sl (some ⟨c,b,none⟩) d k.1]) ?_ (aU.po [0]) ?_
     · intro k e ap o hM h;obtain ⟨e,rfl,O⟩:=eo hM;refine go ?_;refine CW.fl [1,6,7,8,61] fun e=>?_;refine gc h ?_ ?_ <;> intro _ h
       · refine gb h fun a U h=>?_;obtain ⟨cx,cL,hae,bL,bQ⟩:=O.iJ (α:=cd) (i:=0) rfl U;cases hae;refine go ?_;obtain ⟨cg,C,g⟩:=O.freeze (α:=cd) 0 rfl;obtain ⟨bw,b1,bl,hae,A,_,_,aw,B⟩:=C.kr.idx U;cases hae;obtain ⟨br,t,p,x,q,y,rfl,aE,bp,bq⟩:=aw;refine LW.l (iC.iP ap nE rfl (B 10 _ rfl)) (g.zC 0 rfl A) rfl ?_;refine gb h fun ce W h=>?_;obtain ⟨s,I,bm,rfl,au,bn,bo,rfl,ay⟩:=aE.idx W;refine go ?_;refine LW.l (iC.iP ap jc rfl (ay 0 _ rfl)) (g.zC 0 rfl au) rfl ?_;refine go ?_;refine CW.fl [1,6,7,8,73] fun e=>?_;refine gc h ?_ ?_ <;> intro _ h
         · refine go ?_;refine LW.l (iC.iP ap nE rfl (B 10 _ rfl)) (g.zC 0 rfl A) rfl ?_;refine go ?_;have aA:=fun (j:Nat) (u:Value) (hu:([vI a.gen,vI a.kind,vI a.box,vI a.res,vI a.iU,vI a.bh,vI a.wait,vI a.iW,vI a.iR,.bool a.mark,vS (some ⟨s,I,none⟩) a.il.length t,vS p a.data.length x,vS q a.queue.length y]:List Value)[j]?=some u)=>(World.cell?_of_block (g.zC 0 rfl A)).trans (B j u hu);have aV:=g.jj (α:=cd) 0 rfl C;obtain ⟨bk,aB,ax⟩:=aV.focus (α:=cd) (cs:=[vI a.gen,vI a.kind,vI a.box,vI a.res,vI a.iU,vI a.bh,vI a.wait,vI a.iW,vI a.iR,.bool a.mark,vS (some ⟨s,I,none⟩) a.il.length t,vS p a.data.length x,vS q a.queue.length y]) 0 rfl U rfl aA;obtain ⟨bs,bz,bt,bA,bu,bB,av,ar⟩:=aB;cases av;have aW:=ax [sl (some ⟨s,I,none⟩) t a.il,sl p x a.data,sl q y a.queue] ar;have ⟨J,X,h⟩:=ob h;refine LW.se 0 aW 0 W X (hM:=uw) fun ca ad=>?_;refine go ?_;replace h:=oi h;subst h;rw [show a.il.length=J.length from (iM (oi X))] at ad;have aX:=ad.zX (cd.mk a.gen a.kind a.box a.res a.iU a.bh a.wait a.iW a.iR a.mark J a.data a.queue) [0,1,2,3] 3 0 rfl rfl (fun w G hG=>⟨(some ⟨s,I,none⟩),t,p,x,q,y,rfl,hG⟩);exact ⟨rfl,⟨⟨rfl,(show (vS (some ⟨c,b,none⟩) k.1.length d:Value)=vS (some ⟨c,b,none⟩) ((k.1.set (f.2:Int).toNat (cd.mk a.gen a.kind a.box a.res a.iU a.bh a.wait a.iW a.iR a.mark J a.data a.queue)).length) d by rw [show k.1.length=(k.1.set (f.2:Int).toNat (cd.mk a.gen a.kind a.box a.res a.iU a.bh a.wait a.iW a.iR a.mark J a.data a.queue)).length from (iM rfl)]),rfl,rfl,trivial⟩,aX.pk [0]⟩⟩
         refine go ?_;have aY:=g.jj (α:=cd) 0 rfl C;cases oi h;exact ⟨rfl,(aY.po [0])⟩
       refine go ?_;cases oi h;exact ⟨trivial,rfl,(O.po [0])⟩
     rintro e cb ⟨hE,aZ⟩;obtain ⟨e,rfl⟩:=hE.out;have h:=aO;refine go ?_;cases oi h;exact ⟨rfl,(aZ.po [0])⟩
   refine go ?_;cases oi h;exact ⟨trivial,rfl,(K.po [0])⟩
 rintro e cc ⟨hE,a0⟩;obtain ⟨e,rfl⟩:=hE.out;have h:=aP;refine go ?_;cases h;exact Rc tt tt ⟨(some ⟨c,b,none⟩),d,rfl,a0.pk [0]⟩
end Go.Kx
