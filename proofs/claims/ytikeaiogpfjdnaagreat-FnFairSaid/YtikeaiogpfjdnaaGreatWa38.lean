/- Each call returns what the plain function says. Printed by drive.py. -/
import Derived.Test.YtikeaiogpfjdnaaGreatFa
import Derived.Test.YtikeaiogpfjdnaaGreatPu
import Derived.Test.YtikeaiogpfjdnaaGreatWa4
import Derived.Test.YtikeaiogpfjdnaaGreatWa7
import Derived.Test.YtikeaiogpfjdnaaGreatWa9
import Derived.Test.YtikeaiogpfjdnaaGreatWa20
namespace Go.Kx
open Go Go.RowKit Go.Proofs
set_option maxRecDepth 10000
set_option maxHeartbeats 8000000
set_option linter.unusedVariables false
set_option linter.unusedSimpArgs false
theorem W_i_RunNext {w0 N R af ah r} (h:F_i_RunNext N R af ah=some r) {c i d} (j:i=R.length) (k:rb w0 c d R) :
    Ret Tryz.prog 69 #[vS c i d,vI af,vI ah] w0 (fun v w=>v=vI r∧St w0 [] w []):=by
 subst j;unfold F_i_RunNext at h;refine Ret.fn Tryz.func69 fun e=>?_;have X:=St.start w0;refine go ?_;obtain ⟨s,O,n⟩:=ob h;refine CW.mono (CW.lx [1,2,11,12] [] [7,8] 0 (fun m=>[(7,vI m.1),(8,vI m.2.1),(13,vI m.2.2)]) (RT Tryz.prog Tryz.f69.results (fun u=>vI u) w0 []) X O (hb:=?_)) ?_
 · intro m e ar o a h;refine go ?_;refine ch h (fun Y h=>?_) fun Y h=>?_
   · refine gb h fun au ab h=>?_;obtain ⟨ap,aq,ai,rfl,g,Z,aa,rfl,M⟩:=k.idx ab;refine ix Z aa ?_;refine LW.l (Ldr.old w0 ag3 rfl (M 0 _ rfl)) (a.same _ g.1 g.2) rfl ?_;refine go ?_;refine CW.fl [1,2,7,8,10,11,12,13,18] fun e=>?_;refine ch h (fun y h=>?_) fun y h=>?_
     · refine go ?_;cases oi h;exact ⟨rfl,(a.po [])⟩
     refine go ?_;refine ch h (fun z h=>?_) fun z h=>?_
     · refine go ?_;cases oi h;exact ⟨trivial,rfl,_,rfl,⟨_,Res.one (resOne.t rfl),rfl,a.pk []⟩⟩
     refine gs ?_;obtain ⟨ac,J,U⟩:=ob h;refine CW.jn [1,2,7,8,10,11,12,13] [] [(29,.bool ac)] a (h1:=?_) (h2:=?_)
     · have h:=J;refine go ?_;rcases bh h with ⟨A,h⟩ | ⟨A,h⟩
       · refine go ?_;cases oi h;exact a.po []
       refine go ?_;cases oi h;exact a.po []
     intro e ak f;have h:=U;refine gs ?_;obtain ⟨ad,K,V⟩:=ob h;refine CW.jn [1,2,8,10,11,12,13] [] [(7,vI ad)] f (h1:=?_) (h2:=?_)
     · have h:=K;refine ch h (fun B h=>?_) fun B h=>?_
       · refine go ?_;cases oi h;exact f.po []
       refine go ?_;cases oi h;exact f.po []
     intro e am b;have h:=V;refine gs ?_;obtain ⟨ae,L,W⟩:=ob h;refine CW.jn [1,2,7,8,10,11,12,13] [] [(42,.bool ae)] b (h1:=?_) (h2:=?_)
     · have h:=L;refine go ?_;rcases bh h with ⟨C,h⟩ | ⟨C,h⟩
       · refine go ?_;rcases bh h with ⟨G,h⟩ | ⟨G,h⟩
         · refine go ?_;cases oi h;exact b.po []
         refine go ?_;cases oi h;exact b.po []
       refine go ?_;cases oi h;exact b.po []
     intro e an p;have h:=W;refine go ?_;refine ch h (fun H h=>?_) fun H h=>?_
     · refine go ?_;cases oi h;exact ⟨rfl,(p.po [])⟩
     refine go ?_;cases oi h;exact ⟨rfl,(p.po [])⟩
   refine go ?_;cases oi h;exact ⟨trivial,rfl,(a.po [])⟩
 intro x e ao hM;rcases s with s | aj
 · obtain ⟨rfl,hM⟩:=hM;obtain ⟨hE,q⟩:=hM;obtain ⟨e,rfl⟩:=hE.out;have h:=n;refine go ?_;refine ch h (fun I h=>?_) fun I h=>?_
   · refine go ?_;cases h;exact fi q
   refine go ?_;cases h;exact fi q
 obtain ⟨rfl,u,rfl,hM⟩:=hM;cases n;exact And.intro trivial hM
theorem W_l_sameInts {w0 N L M r} (h:F_l_sameInts N L M=some r) {b k d} (m:k=L.length) (p:rb w0 b d L) {c l f} (n:l=M.length) (q:rb w0 c f M) :
    Ret Tryz.prog 19 #[vS b k d,vS c l f] w0 (fun v w=>v=.bool r∧St w0 [] w []):=by
 subst m n;unfold F_l_sameInts at h;refine Ret.fn Tryz.func19 fun e=>?_;have y:=St.start w0;refine go ?_;refine ch h (fun R h=>?_) fun R h=>?_
 · refine go ?_;cases h;exact fi y
 refine go ?_;obtain ⟨A,H,s⟩:=ob h;refine CW.mono (CW.lx [0,1] [] [] 0 (fun Y=>[(5,vI Y)]) (RT Tryz.prog Tryz.f19.results (fun u=>.bool u) w0 []) y H (hb:=?_)) ?_
 · intro Y e aj o z h;refine go ?_;refine ch h (fun U h=>?_) fun U h=>?_
   · refine go ?_;refine CW.draw (by kernel_rfl) ?_;have a:=z.drew;refine gb h fun ak X h=>?_;obtain ⟨ah,ai,Z,rfl,g,V,W,rfl,C⟩:=p.idx X;refine AW.u (i:=2) rfl (by kernel_rfl) rfl rfl (Pur.ix Tryz.underlying24 sz3 rfl rfl V W) ?_;refine AW.take (i:=3) rfl (by kernel_rfl) rfl rfl (Ldr.old w0 ag3 rfl (C 0 _ rfl)) (a.same _ g.1 g.2) ?_;refine gb h fun af K h=>?_;obtain ⟨ab,ac,aa,rfl,j,I,J,rfl,G⟩:=q.idx K;refine AW.u (i:=6) rfl (by kernel_rfl) rfl rfl (Pur.ix Tryz.underlying24 sz3 rfl rfl I J) ?_;refine AW.take (i:=7) rfl (by kernel_rfl) rfl rfl (Ldr.old w0 ag3 rfl (G 0 _ rfl)) (a.same _ j.1 j.2) ?_;refine go ?_;refine ch h (fun B h=>?_) fun B h=>?_
     · refine go ?_;cases oi h;exact ⟨trivial,rfl,_,rfl,⟨_,Res.one (resOne.t rfl),rfl,a.pk []⟩⟩
     refine go ?_;cases oi h;exact ⟨rfl,(a.po [])⟩
   refine go ?_;cases oi h;exact ⟨trivial,rfl,⟨trivial,z.pk []⟩⟩
 intro x e ae hM;rcases A with A | ad
 · obtain ⟨rfl,hM⟩:=hM;obtain ⟨hE,O⟩:=hM;obtain ⟨e,rfl⟩:=hE.out;rw [show e=upds e [] from rfl];have h:=s;refine go ?_;cases h;exact fi O
 obtain ⟨rfl,u,rfl,hM⟩:=hM;cases s;exact And.intro trivial hM
theorem W_i_Runnable {w0 N a a0 r} (h:F_i_Runnable N a a0=some r) {g X q} (ad:X=a.label.levels.length) (I:rb w0 g q a.label.levels) {j Y s} (ae:Y=a.own.length) (J:rb w0 j s a.own) {k Z x} (af:Z=a.tree.length) (K:rb w0 k x a.tree) {m aa y} (ah:aa=a.heap.arena.length) (B:rb w0 m y a.heap.arena) {n ab z} (ai:ab=a.heap.gc.grey.length) (O:rb w0 n z a.heap.gc.grey) {p ac A} (aj:ac=a.taps.length) (R:rb w0 p A a.taps) :
    Ret Tryz.prog 70 #[.agg #[vS g X q,vS j Y s,vS k Z x,vS m aa y,vI a.heap.gc.phase,vI a.heap.gc.pos,vI a.heap.gc.round,vS n ab z,vS p ac A,vI a.next,vI a.want,vI a.spent.pages,vI a.spent.rent,vI a.spent.cpu,vI a.press,vI a.lost],vI a0] w0 (fun v w=>∃ ak am,v=vS ak r.length am∧St w0 [] w [sl ak am r]):=by
 subst ad ae af ah ai aj;unfold F_i_Runnable at h;refine Ret.fn Tryz.func70 fun e=>?_;have aT:=St.start w0;refine go ?_;refine LW.bo aT fun ap bA aU=>?_;refine go ?_;refine LW.bsl (α:=Int) (vs:=[]) (cs:=#[]) (l:=([]:List Int)) rfl (by kernel_rfl) rfl rfl rfl (fun w=>rfl) aU rfl ?_;intro a2 a4 bB f hf;refine gb h fun aL aY h=>?_;refine LW.cl (W_i_Threads aY rfl (f.rB I) rfl (f.rB J) rfl (f.rB K) rfl (f.rB B) rfl (f.rB O) rfl (f.rB R)) ?_;rintro _ bC ⟨aO,aQ,rfl,hs⟩;have aV:=f.add hs;refine go ?_;obtain ⟨bp,aD,aS⟩:=ob h;refine CW.ie aD 0 (fun C e wb=>∃ (b:Ad) (c:Nat),En e [(2,.pointer (some ⟨ap,0,none⟩)),(5,vS b C.1.length c),(11,vS aO aL.length aQ),(12,vI (aL.length:Int)),(13,vI C.2)]∧St w0 [] wb [sl aO aQ aL,sl b c C.1,bx ap 37 [vS g a.label.levels.length q,vS j a.own.length s,vS k a.tree.length x,vS m a.heap.arena.length y,vI a.heap.gc.phase,vI a.heap.gc.pos,vI a.heap.gc.round,vS n a.heap.gc.grey.length z,vS p a.taps.length A,vI a.next,vI a.want,vI a.spent.pages,vI a.spent.rent,vI a.spent.cpu,vI a.press,vI a.lost]]) ?_ ⟨a2,a4,aV.po [0,1,2]⟩ ?_
 · intro C e ao o hM h;obtain ⟨b,c,hE,U⟩:=hM;obtain ⟨e,rfl⟩:=hE.out;refine go ?_;refine ch h (fun aw h=>?_) fun aw h=>?_
   · refine gb h fun a1 W h=>?_;obtain ⟨be,bl,hae,aE,aG⟩:=U.ownIdx (α:=Int) (i:=0) rfl W;subst hae;refine ix aE aG ?_;obtain ⟨aM,H,d⟩:=U.freeze (α:=Int) 0 rfl;obtain ⟨bf,bm,a5,hae,av,_,_,az,aB⟩:=H.rdF.idx W;cases hae;obtain rfl:=az;refine LW.l (Ldr.old ao ag3 rfl (aB 0 _ rfl)) (d.zC 0 rfl av) rfl ?_;refine gs ?_;obtain ⟨aZ,aA,aR⟩:=ob h;refine CW.jn [2,5,7,11,12,13] [0,1,2] [(31,.bool aZ)] d (h1:=?_) (h2:=?_)
     · have h:=aA;refine gb h fun bv aI h=>?_;obtain ⟨bg,bn,a6,rfl,V,aF,aH,⟨bb,bi,bc,bj,bd,bk,rfl,a8,a9,ba⟩,aC⟩:=B.idx aI;refine ix aF aH ?_;refine go ?_;refine LW.l (Ldr.old w0 ag3 rfl (aC 6 _ rfl)) (d.same _ V.1 V.2) rfl ?_;refine go ?_;refine LW.fl [2,5,7,11,12,13,25] fun e=>?_;rcases bh h with ⟨ax,h⟩ | ⟨ax,h⟩
       · refine gb h fun bw aJ h=>?_;refine go ?_;refine LW.c0 (W_i_balOf aJ rfl (d.rB I) rfl (d.rB J) rfl (d.rB K) rfl (d.rB B) rfl (d.rB O) rfl (d.rB R)) d fun br aW=>?_;refine go ?_;refine LW.u (Pur.fd fo35_2 rfl rfl) rfl ?_;refine go ?_;cases oi h;exact aW.po [0,1,2]
       refine go ?_;cases oi h;exact d.po [0,1,2]
     intro e bs an;have h:=aR;refine go ?_;refine CW.fl [2,5,7,11,12,13,31] fun e=>?_;refine ch h (fun ay h=>?_) fun ay h=>?_
     · refine gb h fun bz aK h=>?_;refine LW.app1 (M:=[]) (L:=[fz ao aM,sl b c C.1,bx ap 37 [vS g a.label.levels.length q,vS j a.own.length s,vS k a.tree.length x,vS m a.heap.arena.length y,vI a.heap.gc.phase,vI a.heap.gc.pos,vI a.heap.gc.round,vS n a.heap.gc.grey.length z,vS p a.taps.length A,vI a.next,vI a.want,vI a.spent.pages,vI a.spent.rent,vI a.spent.cpu,vI a.press,vI a.lost]]) (vs:=#[vI a1]) (i:=1) sT24 rfl (by kernel_rfl) rfl rfl aK an rfl (fun w G hG=>by cases (show G=[] from hG);exact ⟨rfl,rfl⟩) rfl rfl ?_;intro bq aN aP bt aX hf;refine go ?_;have aq:=aX.thaw (α:=Int) 0 rfl H;cases oi h;exact ⟨rfl,⟨aN,aP,aq.po [0,1,2]⟩⟩
     refine go ?_;have ar:=an.thaw (α:=Int) 0 rfl H;cases oi h;exact ⟨rfl,⟨b,c,ar.po [0,1,2]⟩⟩
   refine go ?_;cases oi h;exact ⟨trivial,rfl,⟨b,c,U.po [0,1,2]⟩⟩
 rintro e bu ⟨b,c,hE,au⟩;obtain ⟨e,rfl⟩:=hE.out;have h:=aS;refine go ?_;cases h;exact And.intro trivial ⟨_,Res.one (resOne.t rfl),b,c,rfl,au.pk [1]⟩
theorem W_i_PartRun {w0 N a bL r} (h:F_i_PartRun N a bL=some r) {Y aB ah} (aK:aB=a.label.levels.length) (m:rb w0 Y ah a.label.levels) {Z aC ai} (aL:aC=a.own.length) (n:rb w0 Z ai a.own) {aa aD aj} (aM:aD=a.tree.length) (k:rb w0 aa aj a.tree) {ab aE ak} (aN:aE=a.heap.arena.length) (f:rb w0 ab ak a.heap.arena) {ac aF am} (aO:aF=a.heap.gc.grey.length) (o:rb w0 ac am a.heap.gc.grey) {ad aG an} (aP:aG=a.taps.length) (p:rb w0 ad an a.taps) :
    Ret Tryz.prog 16 #[.agg #[vS Y aB ah,vS Z aC ai,vS aa aD aj,vS ab aE ak,vI a.heap.gc.phase,vI a.heap.gc.pos,vI a.heap.gc.round,vS ac aF am,vS ad aG an,vI a.next,vI a.want,vI a.spent.pages,vI a.spent.rent,vI a.spent.cpu,vI a.press,vI a.lost],vI bL] w0 (fun v w=>∃ G M, ∃ H O, ∃ I R, ∃ J U, ∃ K V, ∃ L W,v=.tuple #[.agg #[vS G r.1.label.levels.length M,vS H r.1.own.length O,vS I r.1.tree.length R,vS J r.1.heap.arena.length U,vI r.1.heap.gc.phase,vI r.1.heap.gc.pos,vI r.1.heap.gc.round,vS K r.1.heap.gc.grey.length V,vS L r.1.taps.length W,vI r.1.next,vI r.1.want,vI r.1.spent.pages,vI r.1.spent.rent,vI r.1.spent.cpu,vI r.1.press,vI r.1.lost],vI r.2]∧St w0 [] w [sl G M r.1.label.levels,sl H O r.1.own,sl I R r.1.tree,sl J U r.1.heap.arena,sl K V r.1.heap.gc.grey,sl L W r.1.taps]):=by
 subst aK aL aM aN aO aP;unfold F_i_PartRun at h;refine Ret.fn Tryz.func16 fun e=>?_;have bC:=St.start w0;refine go ?_;refine LW.bo bC fun da dc bD=>?_;refine LW.al bD fun db dd s=>?_;refine gb h fun cf bH h=>?_;refine LW.cl (W_i_copyPart bH rfl (s.rB m) rfl (s.rB n) rfl (s.rB k) rfl (s.rB f) rfl (s.rB o) rfl (s.rB p)) ?_;rintro _ cG ⟨aV,aX,aW,aY,aQ,aS,aR,ao,ae,ap,af,aq,rfl,hs⟩;have bE:=s.add hs;refine LW.al bE fun cB cH bF=>?_;refine LW.st bF 0 fun cI x=>?_;refine gb h fun cX bl h=>?_;refine LW.c0 (W_i_PartOk bl rfl (x.rB m) rfl (x.rB n) rfl (x.rB k) rfl (x.rB f) rfl (x.rB o) rfl (x.rB p)) x fun cJ aT=>?_;refine go ?_;refine ch h (fun a9 h=>?_) fun a9 h=>?_
 · refine go ?_;refine LW.st aT 7 fun cK aU=>?_;refine go ?_;cases h;exact And.intro trivial ⟨_,Res.two (resOne.b aU 7 rfl ag37 rfl rfl) (resOne.t rfl),aV,aX,aW,aY,aQ,aS,aR,ao,ae,ap,af,aq,rfl,aU.pk [1,2,3,4,5,6]⟩
 refine go ?_;refine LW.st aT 0 fun cL bG=>?_;refine go ?_;refine CW.draw (by kernel_rfl) ?_;have g:=bG.drew;refine gb h fun cY bm h=>?_;refine jO 2 ?_;refine LW.cl (W_i_Runnable bm rfl (g.rB m) rfl (g.rB n) rfl (g.rB k) rfl (g.rB f) rfl (g.rB o) rfl (g.rB p)) ?_;rintro _ cM ⟨ci,cu,rfl,hs⟩;have y:=g.add hs;refine jN (.c (y.ce 9) (.c (y.ce 9) (jW jZ))) ?_;have ⟨cZ,bn,h⟩:=ob h;refine jO 8 ?_;refine LW.cl (W_i_RunNext bn rfl (y.rI 0 rfl)) ?_;rintro _ cN ⟨rfl,hs⟩;have j:=y.add hs;refine jN (.c (j.ce 9) (jW (.c (j.ce 9) jZ))) ?_;refine gs ?_;obtain ⟨bI,bd,bB⟩:=ob h;refine CW.jn [2,4,6,7] [1,2,3,4,5,6,7,8,9] [(42,.bool bI)] j (h1:=?_) (h2:=?_)
 · have h:=bd;refine go ?_;rcases bh h with ⟨ba,h⟩ | ⟨ba,h⟩
   · refine go ?_;cases oi h;exact j.po [1,2,3,4,5,6,7,8,9]
   refine go ?_;rcases bh h with ⟨bb,h⟩ | ⟨bb,h⟩
   · refine go ?_;cases oi h;exact j.po [1,2,3,4,5,6,7,8,9]
   refine go ?_;refine LW.fl [2,4,6,7,33,36,37] fun e=>?_;have ⟨c1,bp,h⟩:=ob h;obtain ⟨cq,cD,bW,rfl,ax,bg,bj,⟨cj,cv,ck,cw,cm,cx,rfl,bY,bZ,b0⟩,be⟩:=f.idx bp;refine go ?_;refine ix bg bj ?_;refine go ?_;refine LW.l (Ldr.old w0 ag3 rfl (be 8 _ rfl)) (j.same _ ax.1 ax.2) rfl ?_;refine go ?_;cases oi h;exact j.po [1,2,3,4,5,6,7,8,9]
 intro e cO ar;have h:=bB;refine go ?_;refine ch h (fun bc h=>?_) fun bc h=>?_
 · refine go ?_;refine LW.st ar 7 fun cP au=>?_;refine go ?_;cases h;exact And.intro trivial ⟨_,Res.two (resOne.b au 7 rfl ag37 rfl rfl) (resOne.t rfl),aV,aX,aW,aY,aQ,aS,aR,ao,ae,ap,af,aq,rfl,au.pk [1,2,3,4,5,6]⟩
 refine gb h fun c2 bq h=>?_;refine LW.c0 (W_i_AmtOne bq) ar fun cQ aZ=>?_;refine LW.al aZ fun cC cR a0=>?_;refine LW.st a0 0 fun cS a1=>?_;refine go ?_;refine CW.draw (by kernel_rfl) ?_;have d:=a1.drew;refine gb h fun c3 br h=>?_;obtain ⟨cr,cE,bX,rfl,A,bi,bk,⟨cn,cy,co,cz,cp,cA,rfl,b1,b2,b3⟩,bf⟩:=f.idx br;refine AW.u (i:=7) rfl (by kernel_rfl) rfl rfl (Pur.ix Tryz.underlying28 sz44 rfl rfl bi bk) ?_;refine go ?_;refine AW.take (i:=9) rfl (by kernel_rfl) rfl rfl (Ldr.old w0 ag3 rfl (bf 3 _ rfl)) (d.same _ A.1 A.2) ?_;refine gb h fun c4 bs h=>?_;refine jO 10 ?_;refine LW.cl (W_i_ResOf bs rfl (d.rB m) rfl (d.rB n) rfl (d.rB k) rfl (d.rB f) rfl (d.rB o) rfl (d.rB p)) ?_;rintro _ cT ⟨rfl,hs⟩;have q:=d.add hs;refine jN (.c (q.ce 0) (jW (.c (q.ce 9) (jW (.c (q.ce 9) jZ))))) ?_;have ⟨c5,bt,h⟩:=ob h;refine jO 12 ?_;refine LW.cl (W_i_TreePay bt rfl (q.rB k)) ?_;rintro _ cU ⟨bw,bA,rfl,hs⟩;have z:=q.add hs;refine jN (jW (.c (z.same _ A.1 A.2) (.c (z.ce 10) (.c (z.ce 10) (jW jZ))))) ?_;refine go ?_;refine jO 17 ?_;refine LW.st z 2 fun cV a2=>?_;refine jN (jW (jW (jW (jW (jW jZ))))) ?_;refine gb h fun c6 bu h=>?_;refine LW.c0 (W_i_sumOf bu) a2 fun cW a3=>?_;refine go ?_;refine LW.st a3 2 fun bK av=>?_;refine go ?_;refine LW.fl [4,6,7,69,70] fun e=>?_;have ⟨c8,C,h⟩:=ob h;obtain ⟨bz,bJ,hae,az,aA⟩:=av.ownIdx (α:=DObj) (i:=6) rfl C;subst hae;refine ix az aA ?_;refine go ?_;obtain ⟨cg,ay,aw⟩:=av.freeze (α:=DObj) 6 rfl;obtain ⟨ct,cF,bM,hae,aH,_,_,aI,aJ⟩:=ay.rdF.idx C;cases hae;obtain ⟨bQ,bT,bR,bU,bS,bV,rfl,bN,bO,bP⟩:=aI;refine LW.l (Ldr.old bK ag3 rfl (aJ 8 _ rfl)) (aw.zC 6 rfl aH) rfl ?_;refine go ?_;refine ix az aA ?_;refine go ?_;have a4:=aw.thaw (α:=DObj) 6 rfl ay;have ⟨bv,X,h⟩:=ob h;refine LW.se 8 a4 6 C X (hM:=(leafF (fun w cs F hF=>by obtain ⟨b4,b7,b5,b8,b6,b9,rfl,hH⟩:=hF;exact ⟨b4,b7,b5,b8,b6,b9,rfl,hH⟩))) fun ca a5=>?_
 refine go ?_;refine LW.st a5 2 fun cb a7=>?_;refine go ?_;refine LW.st a7 9 fun cc B=>?_;refine go ?_;cases h;rw [show cf.heap.arena.length=bv.length from (len_set (oi X))] at B;exact And.intro trivial ⟨_,Res.two (resOne.b B 9 rfl ag37 rfl rfl) (resOne.t rfl),aV,aX,aW,aY,bw,bA,(some ⟨bz,bJ,none⟩),ao,ae,ap,af,aq,rfl,B.pk [3,4,0,6,7,8]⟩
end Go.Kx
