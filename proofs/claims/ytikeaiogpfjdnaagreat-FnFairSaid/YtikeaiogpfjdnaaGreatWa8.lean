/- Each call returns what the plain function says. Printed by drive.py. -/
import Derived.Test.YtikeaiogpfjdnaaGreatFa
import Derived.Test.YtikeaiogpfjdnaaGreatPu
import Derived.Test.YtikeaiogpfjdnaaGreatWa4
import Derived.Test.YtikeaiogpfjdnaaGreatWa5
import Derived.Test.YtikeaiogpfjdnaaGreatWa6
import Derived.Test.YtikeaiogpfjdnaaGreatWa7
namespace Go.Kx
open Go Go.RowKit Go.Proofs
set_option maxRecDepth 10000
set_option maxHeartbeats 8000000
set_option linter.unusedVariables false
set_option linter.unusedSimpArgs false
theorem W_s_TreePay {w0 N ah ai I r} (h:F_s_TreePay N ah ai I=some r) {l B o} (H:B=ah.length) (b:rb w0 l o ah) :
    Ret Tryz.prog 253 #[vS l B o,vI ai,.agg #[vI I.pages,vI I.rent,vI I.cpu]] w0 (fun v w=>∃ K L,v=.tuple #[vS K r.1.length L,.bool r.2]∧St w0 [] w [sl K L r.1]):=by
 subst H;unfold F_s_TreePay at h;refine Ret.fn Tryz.func253 fun e=>?_;have an:=St.start w0;refine go ?_;refine LW.bo an fun aJ aK M=>?_;refine gb h fun J ar h=>?_;refine LW.cl (W_s_l6Copy ar rfl (M.rB b)) ?_;rintro _ aL ⟨G,f,rfl,hs⟩;have O:=M.add hs;refine gb h fun aN au h=>?_;refine LW.c0 (W_s_l6Live au rfl (O.rB b)) O fun aM R=>?_;refine go ?_;refine ch h (fun aq h=>?_) fun aq h=>?_
 · refine go ?_;cases h;exact And.intro trivial ⟨_,Res.two (resOne.t rfl) (resOne.t rfl),G,f,rfl,R.pk [0]⟩
 refine gs ?_;obtain ⟨k,Z,am⟩:=ob h;refine CW.cut (fun e wb=>∃ (d:Nat),En e [(1,vI ai),(8,vS G J.length f),(9,.pointer (some ⟨d,0,none⟩)),(10,.bool k.2.2.2)]∧St w0 [] wb [sl G f J,bx d 35 [vI k.1,vI k.2.1,vI k.2.2.1]]) ?_ ?_
 · have h:=Z;refine CW.draw (by kernel_rfl) ?_;have q:=R.drew;refine gb h fun aG af h=>?_;obtain ⟨aw,ax,av,rfl,a,ab,ad,rfl,aa⟩:=b.idx af;refine AW.u (i:=2) rfl (by kernel_rfl) rfl rfl (Pur.ix Tryz.underlying27 sz46 rfl rfl ab ad) ?_;refine go ?_;refine AW.take (i:=4) rfl (by kernel_rfl) rfl rfl (Ldr.oldN w0 ag35 rfl rfl (fun j u hu=>oldsub (m:=3) aa 2 hu)) (q.same _ a.1 a.2) ?_;refine gb h fun aH y h=>?_;refine AW.all (rs:=[6,10]) (by kernel_rfl) (by simp) ⟨?_,?_,trivial⟩
   · refine ⟨_,rfl,?_⟩;refine LW.cl (W_s_AmtSub y) ?_;rintro _ ay ⟨rfl,hs⟩;have ao:=q.add hs;refine jN (jW (jW jZ)) ?_;refine AW.u (i:=7) rfl (by kernel_rfl) rfl rfl (Pur.p rfl) ?_;refine go ?_;refine jO 10 ?_;refine LW.al ao fun aj az s=>?_;refine jN (.c (s.ce 2) (.c (s.same _ a.1 a.2) jZ)) ?_;refine jO 11 ?_;refine LW.st s 0 fun aA ap=>?_;refine jN (jW (jW jZ)) ?_;refine go ?_;cases oi h;exact ⟨aj,ap.po [1,0]⟩
   refine ⟨_,rfl,?_⟩;refine LW.al q fun ak aB x=>?_;refine jN (.c (x.ce 2) (.c (x.same _ a.1 a.2) jZ)) ?_;refine jO 6 ?_;refine LW.cl (W_s_AmtSub y) ?_;rintro _ aC ⟨rfl,hs⟩;have V:=x.add hs;refine jN (jW (jW jZ)) ?_;refine go ?_;refine jO 11 ?_;refine LW.st V 0 fun aD W=>?_;refine jN (jW (jW jZ)) ?_;refine go ?_;cases oi h;exact ⟨ak,W.po [1,0]⟩
 rintro e aE ⟨d,hE,g⟩;obtain ⟨e,rfl⟩:=hE.out;have h:=am;refine go ?_;refine ch h (fun Y h=>?_) fun Y h=>?_
 · refine go ?_;cases h;exact And.intro trivial ⟨_,Res.two (resOne.t rfl) (resOne.t rfl),G,f,rfl,g.pk [0]⟩
 refine gb h fun aI z h=>?_;obtain ⟨n,C,hae,ac,ae⟩:=g.ownIdx (α:=DRes) (i:=0) rfl z;subst hae;refine ix ac ae ?_;refine gb h fun U A h=>?_;refine LW.se 2 g 0 z A (hM:=(leafF (fun w cs F hF=>by obtain ⟨rfl,rfl⟩:=hF;exact ⟨rfl,rfl⟩))) fun aF X=>?_;refine go ?_;replace h:=oi h;subst h;exact And.intro trivial ⟨_,Res.two (resOne.t rfl) (resOne.t rfl),(some ⟨n,C,none⟩),f,(show (.tuple #[vS (some ⟨n,C,none⟩) J.length f,.bool true]:Value)=.tuple #[vS (some ⟨n,C,none⟩) U.length f,.bool true] by rw [show J.length=U.length from (len_set (oi A))]),X.pk [0]⟩
theorem W_s_GcBorn {w0 N d aK r} (h:F_s_GcBorn N d aK=some r) {p K s} (V:K=d.arena.length) (a:rb w0 p s d.arena) {q L t} (W:L=d.gc.grey.length) (o:rb w0 q t d.gc.grey) :
    Ret Tryz.prog 212 #[.agg #[vS p K s,vI d.gc.phase,vI d.gc.pos,vI d.gc.round,vS q L t],vI aK] w0 (fun v w=>∃ g k, ∃ j m,v=.agg #[vS g r.arena.length k,vI r.gc.phase,vI r.gc.pos,vI r.gc.round,vS j r.gc.grey.length m]∧St w0 [] w [sl g k r.arena,sl j m r.gc.grey]):=by
 subst V W;unfold F_s_GcBorn at h;refine Ret.fn Tryz.func212 fun e=>?_;have aE:=St.start w0;refine go ?_;refine LW.bo aE fun bm bn aF=>?_;refine LW.al aF fun aB bp A=>?_;refine gb h fun f aI h=>?_;refine LW.cl (W_s_l10Copy aI rfl (A.rB a) rfl (A.rB o)) ?_;rintro _ a3 ⟨M,R,O,U,rfl,hs⟩;have aG:=A.add hs;refine LW.al aG fun X a4 aH=>?_;refine LW.st aH 0 fun a5 n=>?_;refine gs ?_;obtain ⟨aJ,af,aC⟩:=ob h;refine CW.jn [1,2,4,5] [0,1,2,3,4] [(24,.bool aJ)] n (h1:=?_) (h2:=?_)
 · have h:=af;refine gb h fun bg aq h=>?_;refine LW.c0 (W_s_HeapOk aq rfl (n.rB a) rfl (n.rB o)) n fun a7 Y=>?_;refine go ?_;rcases bh h with ⟨ab,h⟩ | ⟨ab,h⟩
   · refine go ?_;cases oi h;exact Y.po [0,1,2,3,4]
   refine gb h fun bi ar h=>?_;refine go ?_;refine LW.c0 (W_s_l8Slot ar) Y fun a9 B=>?_;refine go ?_;rcases bh h with ⟨ac,h⟩ | ⟨ac,h⟩
   · refine go ?_;cases oi h;exact B.po [0,1,2,3,4]
   refine gb h fun bj au h=>?_;obtain ⟨aU,a0,aN,rfl,C,aj,an,⟨aR,aX,aS,aY,aT,aZ,rfl,aO,aP,aQ⟩,ai⟩:=a.idx au;refine go ?_;refine ix aj an ?_;refine go ?_;refine LW.l (Ldr.old w0 ag3 rfl (ai 1 _ rfl)) (B.same _ C.1 C.2) rfl ?_;refine go ?_;cases oi h;exact B.po [0,1,2,3,4]
 intro e ba c;have h:=aC;refine go ?_;refine ch h (fun ad h=>?_) fun ad h=>?_
 · refine go ?_;refine LW.st c 3 fun bb u=>?_;refine go ?_;cases h;exact And.intro trivial ⟨_,Res.one (resOne.b u 3 rfl ag32 rfl rfl),M,R,O,U,rfl,u.pk [1,2]⟩
 refine gs ?_;obtain ⟨Z,ah,aD⟩:=ob h;refine CW.cut (fun e wb=>En e [(4,.pointer (some ⟨aB,0,none⟩)),(5,.pointer (some ⟨X,0,none⟩))]∧St w0 [] wb [bx X 32 [vS M Z.length R,vI f.gc.phase,vI f.gc.pos,vI f.gc.round,vS O f.gc.grey.length U],sl M R Z,sl O U f.gc.grey,bx aB 32 [vS none 0 0,vI 0,vI 0,vI 0,vS none 0 0]]) ?_ ?_
 · have h:=ah;refine go ?_;rcases bh h with ⟨ae,h⟩ | ⟨ae,h⟩
   · refine gb h fun bk G h=>?_;obtain ⟨aV,a1,hae,ak,ao⟩:=c.ownIdx (α:=DObj) (i:=1) rfl G;subst hae;refine ix ak ao ?_;refine gb h fun aL H h=>?_;refine LW.se 9 c 1 G H (hM:=(leafF (fun w cs F hF=>by obtain ⟨av,ay,aw,az,ax,aA,rfl,hH⟩:=hF;exact ⟨av,ay,aw,az,ax,aA,rfl,hH⟩))) fun bc x=>?_;refine go ?_;rw [show f.arena.length=aL.length from (len_set (oi H))] at x;cases oi h;exact x.po [0,1,2,3]
   refine gb h fun bl I h=>?_;obtain ⟨aW,a2,hae,am,ap⟩:=c.ownIdx (α:=DObj) (i:=1) rfl I;subst hae;refine ix am ap ?_;refine gb h fun aM J h=>?_;refine LW.se 9 c 1 I J (hM:=(leafF (fun w cs F hF=>by obtain ⟨av,ay,aw,az,ax,aA,rfl,hH⟩:=hF;exact ⟨av,ay,aw,az,ax,aA,rfl,hH⟩))) fun bd y=>?_;refine go ?_;rw [show f.arena.length=aM.length from (len_set (oi J))] at y;cases oi h;exact y.po [0,1,2,3]
 rintro e be ⟨hE,aa⟩;obtain ⟨e,rfl⟩:=hE.out;have h:=aD;refine go ?_;refine LW.st aa 3 fun bf z=>?_;refine go ?_;cases h;exact And.intro trivial ⟨_,Res.one (resOne.b z 3 rfl ag32 rfl rfl),M,R,O,U,rfl,z.pk [1,2]⟩
theorem W_s_GcShade {w0 N a ad r} (h:F_s_GcShade N a ad=some r) {l u n} (y:u=a.arena.length) (j:rb w0 l n a.arena) {m x o} (z:x=a.gc.grey.length) (k:rb w0 m o a.gc.grey) :
    Ret Tryz.prog 255 #[.agg #[vS l u n,vI a.gc.phase,vI a.gc.pos,vI a.gc.round,vS m x o],vI ad] w0 (fun v w=>∃ c f, ∃ d g,v=.agg #[vS c r.arena.length f,vI r.gc.phase,vI r.gc.pos,vI r.gc.round,vS d r.gc.grey.length g]∧St w0 [] w [sl c f r.arena,sl d g r.gc.grey]):=by
 subst y z;unfold F_s_GcShade at h;refine Ret.fn Tryz.func255 fun e=>?_;have W:=St.start w0;refine go ?_;refine LW.bo W fun aA aC X=>?_;refine LW.al X fun aB aD t=>?_;refine gb h fun aE ab h=>?_;refine LW.cl (W_s_l10Copy ab rfl (t.rB j) rfl (t.rB k)) ?_;rintro _ am ⟨ae,ah,af,ai,rfl,hs⟩;have Y:=t.add hs;refine LW.al Y fun ak an Z=>?_;refine LW.st Z 0 fun ao i=>?_;refine gs ?_;obtain ⟨ac,I,V⟩:=ob h;refine CW.jn [1,4,5] [0,1,2,3] [(15,.bool ac)] i (h1:=?_) (h2:=?_)
 · have h:=I;refine gb h fun ax J h=>?_;refine LW.c0 (W_s_HeapOk J rfl (i.rB j) rfl (i.rB k)) i fun ap A=>?_;refine go ?_;rcases bh h with ⟨G,h⟩ | ⟨G,h⟩
   · refine go ?_;cases oi h;exact A.po [0,1,2,3]
   refine gb h fun ay K h=>?_;refine go ?_;refine LW.c0 (W_s_l8Slot K) A fun aq aa=>?_;refine go ?_;cases oi h;exact aa.po [0,1,2,3]
 intro e ar B;have h:=V;refine go ?_;refine ch h (fun H h=>?_) fun H h=>?_
 · refine go ?_;refine LW.st B 3 fun au q=>?_;refine go ?_;cases h;exact And.intro trivial ⟨_,Res.one (resOne.b q 3 rfl ag32 rfl rfl),ae,ah,af,ai,rfl,q.pk [1,2]⟩
 refine gb h fun az L h=>?_;obtain ⟨aj,p⟩:=B.lendI [1,2] [0,3];refine LW.cl (W_s_l10Shade L rfl rfl p.st) ?_;rintro _ av ⟨M,R,O,U,rfl,hs⟩;have C:=p.back _ _ hs;refine LW.st C 3 fun aw s=>?_;refine go ?_;cases h;exact And.intro trivial ⟨_,Res.one (resOne.b s 3 rfl ag32 rfl rfl),M,R,O,U,rfl,s.pk [0,1]⟩
theorem W_s_ResOf {w0 N a O r} (h:F_s_ResOf N a O=some r) {b p j} (y:p=a.label.levels.length) (R:rb w0 b j a.label.levels) {c q k} (z:q=a.own.length) (U:rb w0 c k a.own) {d s l} (A:s=a.tree.length) (H:rb w0 d l a.tree) {f t m} (B:t=a.heap.arena.length) (V:rb w0 f m a.heap.arena) {g u n} (C:u=a.heap.gc.grey.length) (W:rb w0 g n a.heap.gc.grey) {i x o} (G:x=a.taps.length) (X:rb w0 i o a.taps) :
    Ret Tryz.prog 15 #[.agg #[vS b p j,vS c q k,vS d s l,vS f t m,vI a.heap.gc.phase,vI a.heap.gc.pos,vI a.heap.gc.round,vS g u n,vS i x o,vI a.next,vI a.want,vI a.spent.pages,vI a.spent.rent,vI a.spent.cpu,vI a.press,vI a.lost],vI O] w0 (fun v w=>v=vI r∧St w0 [] w []):=by
 subst y z A B C G;unfold F_s_ResOf at h;refine Ret.fn Tryz.func15 fun e=>?_;have K:=St.start w0;refine go ?_;refine LW.bo K fun Y Z I=>?_;refine gb h fun ab M h=>?_;refine LW.c0 (W_s_l6Live M rfl (I.rB H)) I fun aa J=>?_;refine go ?_;refine ch h (fun L h=>?_) fun L h=>?_
 · refine go ?_;cases h;exact fi J
 refine go ?_;cases h;exact fi J
theorem W_s_TreeBack {w0 N aH aU X r} (h:F_s_TreeBack N aH aU X=some r) {s R y} (W:R=aH.length) (a:rb w0 s y aH) :
    Ret Tryz.prog 92 #[vS s R y,vI aU,.agg #[vI X.pages,vI X.rent,vI X.cpu]] w0 (fun v w=>∃ Z aa,v=.tuple #[vS Z r.1.length aa,.bool r.2]∧St w0 [] w [sl Z aa r.1]):=by
 subst W;unfold F_s_TreeBack at h;refine Ret.fn Tryz.func92 fun e=>?_;have aN:=St.start w0;refine go ?_;refine LW.bo aN fun bz bA ab=>?_;refine gb h fun Y aR h=>?_;refine LW.cl (W_s_l6Copy aR rfl (ab.rB a)) ?_;rintro _ bB ⟨V,f,rfl,hs⟩;have ac:=ab.add hs;refine gb h fun bD aS h=>?_;refine LW.c0 (W_s_TreeOk aS rfl (ac.rB a)) ac fun bC C=>?_;refine go ?_;refine ch h (fun aQ h=>?_) fun aQ h=>?_
 · refine go ?_;cases h;exact And.intro trivial ⟨_,Res.two (resOne.t rfl) (resOne.t rfl),V,f,rfl,C.pk [0]⟩
 refine gs ?_;obtain ⟨aT,aw,aK⟩:=ob h;refine CW.jn [0,1,5,8] [0,1] [(10,.bool aT)] C (h1:=?_) (h2:=?_)
 · have h:=aw;refine CW.draw (by kernel_rfl) ?_;have G:=C.drew;refine gb h fun bq I h=>?_;refine AW.all (rs:=[1,7]) (by kernel_rfl) (by simp) ⟨?_,?_,trivial⟩
   · refine ⟨_,rfl,?_⟩;refine LW.cl (W_s_l6Sum I rfl (G.rB a)) ?_;rintro _ a1 ⟨rfl,hs⟩;have H:=G.add hs;refine jN (.c (H.ce 1) jZ) ?_;have ⟨br,J,h⟩:=ob h;refine AW.all (rs:=[3,7]) (by kernel_rfl) (by simp) ⟨?_,?_,trivial⟩
     · refine ⟨_,rfl,?_⟩;refine LW.cl (W_s_AmtAdd J) ?_;rintro _ a2 ⟨rfl,hs⟩;have aO:=H.add hs;refine jN (jW jZ) ?_;refine AW.u (i:=4) rfl (by kernel_rfl) rfl rfl (Pur.p rfl) ?_;refine go ?_;refine jO 7 ?_;refine LW.al aO fun aX a3 ad=>?_;refine jN (.c (ad.ce 2) jZ) ?_;refine jO 8 ?_;refine LW.st ad 0 fun a5 aP=>?_;refine jN (jW jZ) ?_;refine go ?_;cases oi h;exact aP.po [1,2]
     refine ⟨_,rfl,?_⟩;refine LW.al H fun aY a6 z=>?_;refine jN (.c (z.ce 2) jZ) ?_;refine jO 3 ?_;refine LW.cl (W_s_AmtAdd J) ?_;rintro _ a7 ⟨rfl,hs⟩;have ah:=z.add hs;refine jN (jW jZ) ?_;refine go ?_;refine jO 8 ?_;refine LW.st ah 0 fun a8 ai=>?_;refine jN (jW jZ) ?_;refine go ?_;cases oi h;exact ai.po [1,2]
   refine ⟨_,rfl,?_⟩;refine LW.al G fun aZ a9 g=>?_;refine jN (.c (g.ce 2) jZ) ?_;refine jO 1 ?_;refine LW.cl (W_s_l6Sum I rfl (g.rB a)) ?_;rintro _ ba ⟨rfl,hs⟩;have A:=g.add hs;refine jN (.c (A.ce 2) jZ) ?_;have ⟨bs,aE,h⟩:=ob h;refine jO 3 ?_;refine LW.cl (W_s_AmtAdd aE) ?_;rintro _ bb ⟨rfl,hs⟩;have aj:=A.add hs;refine jN (jW jZ) ?_;refine go ?_;refine jO 8 ?_;refine LW.st aj 0 fun bc ak=>?_;refine jN (jW jZ) ?_;refine go ?_;cases oi h;exact ak.po [1,2]
 intro e bd k;have h:=aK;refine go ?_;refine ch h (fun au h=>?_) fun au h=>?_
 · refine go ?_;cases h;exact And.intro trivial ⟨_,Res.two (resOne.t rfl) (resOne.t rfl),V,f,rfl,k.pk [0]⟩
 refine gb h fun bt aF h=>?_;refine LW.c0 (W_s_l6Live aF rfl (k.rB a)) k fun be l=>?_;refine gs ?_;obtain ⟨ae,ax,aL⟩:=ob h;refine CW.jn [0,5,8] [0,1] [(1,vI ae)] l (h1:=?_) (h2:=?_)
 · have h:=ax;refine CW.fl [0,1,5,8,32] fun e=>?_;refine ch h (fun av h=>?_) fun av h=>?_
   · refine go ?_;cases oi h;exact l.po [0,1]
   refine go ?_;cases oi h;exact l.po [0,1]
 intro e bf am;have h:=aL;refine gs ?_;obtain ⟨O,ay,aM⟩:=ob h;refine CW.cut (fun e wb=>∃ (d:Nat),En e [(1,vI ae),(8,vS V Y.length f),(11,.pointer (some ⟨d,0,none⟩))]∧St w0 [] wb [sl V f Y,bx d 35 [vI O.1,vI O.2.1,vI O.2.2]]) ?_ ?_
 · have h:=ay;refine CW.draw (by kernel_rfl) ?_;have n:=am.drew;refine gb h fun bu aG h=>?_;obtain ⟨aW,a0,aV,rfl,b,aA,aC,rfl,az⟩:=a.idx aG;refine AW.u (i:=2) rfl (by kernel_rfl) rfl rfl (Pur.ix Tryz.underlying27 sz46 rfl rfl aA aC) ?_;refine go ?_;refine AW.take (i:=4) rfl (by kernel_rfl) rfl rfl (Ldr.oldN w0 ag35 rfl rfl (fun j u hu=>oldsub (m:=3) az 2 hu)) (n.same _ b.1 b.2) ?_;refine gb h fun bv K h=>?_;refine AW.all (rs:=[6,10]) (by kernel_rfl) (by simp) ⟨?_,?_,trivial⟩
   · refine ⟨_,rfl,?_⟩;refine LW.cl (W_s_AmtAdd K) ?_;rintro _ bg ⟨rfl,hs⟩;have an:=n.add hs;refine jN (jW (jW jZ)) ?_;refine AW.u (i:=7) rfl (by kernel_rfl) rfl rfl (Pur.p rfl) ?_;refine go ?_;refine jO 10 ?_;refine LW.al an fun aI bi o=>?_;refine jN (.c (o.ce 2) (.c (o.same _ b.1 b.2) jZ)) ?_;refine jO 11 ?_;refine LW.st o 0 fun bj ao=>?_;refine jN (jW (jW jZ)) ?_;refine go ?_;cases oi h;exact ⟨aI,ao.po [1,0]⟩
   refine ⟨_,rfl,?_⟩;refine LW.al n fun aJ bk q=>?_;refine jN (.c (q.ce 2) (.c (q.same _ b.1 b.2) jZ)) ?_;refine jO 6 ?_;refine LW.cl (W_s_AmtAdd K) ?_;rintro _ bl ⟨rfl,hs⟩;have ap:=q.add hs;refine jN (jW (jW jZ)) ?_;refine go ?_;refine jO 11 ?_;refine LW.st ap 0 fun bm aq=>?_;refine jN (jW (jW jZ)) ?_;refine go ?_;cases oi h;exact ⟨aJ,aq.po [1,0]⟩
 rintro e bn ⟨d,hE,B⟩;obtain ⟨e,rfl⟩:=hE.out;have h:=aM;refine gb h fun bw L h=>?_;obtain ⟨x,U,hae,aB,aD⟩:=B.ownIdx (α:=DRes) (i:=0) rfl L;subst hae;refine ix aB aD ?_;refine gb h fun af M h=>?_;refine LW.se 2 B 0 L M (hM:=(leafF (fun w cs F hF=>by obtain ⟨rfl,rfl⟩:=hF;exact ⟨rfl,rfl⟩))) fun bp ar=>?_;refine go ?_;replace h:=oi h;subst h;exact And.intro trivial ⟨_,Res.two (resOne.t rfl) (resOne.t rfl),(some ⟨x,U,none⟩),f,(show (.tuple #[vS (some ⟨x,U,none⟩) Y.length f,.bool true]:Value)=.tuple #[vS (some ⟨x,U,none⟩) af.length f,.bool true] by rw [show Y.length=af.length from (len_set (oi M))]),ar.pk [0]⟩
theorem W_s_TreeDrop {w0 N aZ am r} (h:F_s_TreeDrop N aZ am=some r) {C ai G} (ak:ai=aZ.length) (d:rb w0 C G aZ) :
    Ret Tryz.prog 259 #[vS C ai G,vI am] w0 (fun v w=>∃ an ao,v=.tuple #[vS an r.1.length ao,.bool r.2]∧St w0 [] w [sl an ao r.1]):=by
 subst ak;unfold F_s_TreeDrop at h;refine Ret.fn Tryz.func259 fun e=>?_;have ap:=St.start w0;refine gb h fun aj ba h=>?_;refine LW.cl (W_s_l6Copy ba rfl (ap.rB d)) ?_;rintro _ bT ⟨ax,k,rfl,hs⟩;have J:=ap.add hs;refine gs ?_;obtain ⟨bj,a9,bi⟩:=ob h;refine CW.jn [0,1,6] [0] [(20,.bool bj)] J (h1:=?_) (h2:=?_)
 · have h:=a9;refine gb h fun bV bb h=>?_;refine LW.c0 (W_s_l6Live bb rfl (J.rB d)) J fun bU aq=>?_;refine go ?_;rcases bh h with ⟨a8,h⟩ | ⟨a8,h⟩
   · refine go ?_;cases oi h;exact aq.po [0]
   refine go ?_;cases oi h;exact aq.po [0]
 intro e bA K;have h:=bi;refine go ?_;refine ch h (fun aF h=>?_) fun aF h=>?_
 · refine go ?_;cases h;exact And.intro trivial ⟨_,Res.two (resOne.t rfl) (resOne.t rfl),ax,k,rfl,K.pk [0]⟩
 refine gb h fun au aX h=>?_;obtain ⟨bl,br,be,rfl,a,V,X,rfl,R⟩:=d.idx aX;refine ix V X ?_;refine go ?_;refine LW.l (Ldr.old w0 ag3 rfl (R 1 _ rfl)) (K.same _ a.1 a.2) rfl ?_;refine gs ?_;obtain ⟨ah,aL,a3⟩:=ob h;refine CW.cut (fun e wb=>∃ (x:Nat),En e [(1,vI am),(6,vS ax aj.length k),(7,vI au.parent),(8,.pointer (some ⟨x,0,none⟩))]∧St w0 [] wb [sl ax k aj,bx x 35 [vI ah.1,vI ah.2.1,vI ah.2.2]]) ?_ ?_
 · have h:=aL;refine CW.draw (by kernel_rfl) ?_;have B:=K.drew;refine gb h fun bN aY h=>?_;obtain ⟨bm,bs,bf,hae,b,aP,aT,aJ,aN⟩:=d.idx aY;cases hae;obtain rfl:=aJ;refine AW.u (i:=2) rfl (by kernel_rfl) rfl rfl (Pur.ix Tryz.underlying27 sz46 rfl rfl aP aT) ?_;refine go ?_;refine AW.take (i:=4) rfl (by kernel_rfl) rfl rfl (Ldr.oldN w0 ag35 rfl rfl (fun j u hu=>oldsub (m:=3) aN 2 hu)) (B.same _ b.1 b.2) ?_;refine go ?_;refine AW.u (i:=7) rfl (by kernel_rfl) rfl rfl (Pur.ix Tryz.underlying27 sz46 rfl rfl V X) ?_;refine go ?_;refine AW.take (i:=9) rfl (by kernel_rfl) rfl rfl (Ldr.oldN w0 ag35 rfl rfl (fun j u hu=>oldsub (m:=3) R 2 hu)) (B.same _ a.1 a.2) ?_;have ⟨bO,Z,h⟩:=ob h;refine AW.all (rs:=[10,14]) (by kernel_rfl) (by simp) ⟨?_,?_,trivial⟩
   · refine ⟨_,rfl,?_⟩;refine LW.cl (W_s_AmtAdd Z) ?_;rintro _ bB ⟨rfl,hs⟩;have a6:=B.add hs;refine jN (jW (jW jZ)) ?_;refine AW.u (i:=11) rfl (by kernel_rfl) rfl rfl (Pur.p rfl) ?_;refine go ?_;refine jO 14 ?_;refine LW.al a6 fun a0 bC L=>?_;refine jN (.c (L.same _ a.1 a.2) (.c (L.same _ b.1 b.2) jZ)) ?_;refine jO 15 ?_;refine LW.st L 0 fun bD a7=>?_;refine jN (jW (jW jZ)) ?_;refine go ?_;cases oi h;exact ⟨a0,a7.po [1,0]⟩
   refine ⟨_,rfl,?_⟩;refine LW.al B fun a1 bE M=>?_;refine jN (.c (M.same _ a.1 a.2) (.c (M.same _ b.1 b.2) jZ)) ?_;refine jO 10 ?_;refine LW.cl (W_s_AmtAdd Z) ?_;rintro _ bF ⟨rfl,hs⟩;have ay:=M.add hs;refine jN (jW (jW jZ)) ?_;refine go ?_;refine jO 15 ?_;refine LW.st ay 0 fun bG az=>?_;refine jN (jW (jW jZ)) ?_;refine go ?_;cases oi h;exact ⟨a1,az.po [1,0]⟩
 rintro e bH ⟨x,hE,H⟩;obtain ⟨e,rfl⟩:=hE.out;have h:=a3;refine gb h fun bP aa h=>?_;obtain ⟨f,g,hae,aQ,aU⟩:=H.ownIdx (α:=DRes) (i:=0) rfl aa;subst hae;refine ix aQ aU ?_;refine gb h fun bd A h=>?_;refine LW.se 2 H 0 aa A (hM:=(leafF (fun w cs F hF=>by obtain ⟨rfl,rfl⟩:=hF;exact ⟨rfl,rfl⟩))) fun bI I=>?_;refine go ?_;refine LW.u (Pur.build (vs:=[]) (cs:=#[.bool false,vI 0,vI 0,vI 0,vI 0]) rfl (by kernel_rfl)) rfl ?_;have ⟨bQ,ab,h⟩:=ob h;obtain ⟨bn,bt,hae,aR,aV⟩:=I.ownIdx (α:=DRes) (i:=0) rfl ab;cases hae;refine LW.u (Pur.ix Tryz.underlying27 sz46 rfl rfl aR (by rw [show aj.length=bd.length from (len_set (oi A))];exact aV)) rfl ?_;have ⟨av,ac,h⟩:=ob h;refine LW.se 0 I 0 ab ac (hM:=whF) fun bJ aA=>?_;refine go ?_;obtain ⟨bz,aO,a5⟩:=ob h;refine CW.ie aO 0 (fun n e wb=>En e [(1,vI am),(6,vS (some ⟨f,g,none⟩) n.1.length k),(7,vI au.parent),(10,vI n.2)]∧St w0 [] wb [sl (some ⟨f,g,none⟩) k n.1]) ?_ ⟨⟨rfl,(show (vS (some ⟨f,g,none⟩) aj.length k:Value)=vS (some ⟨f,g,none⟩) av.length k by rw [show aj.length=av.length from ((len_set (oi A)).trans (len_set (oi ac)))]),rfl,rfl,trivial⟩,aA.pk [0]⟩ ?_
 · intro n e ar o hM h;obtain ⟨hE,q⟩:=hM;obtain ⟨e,rfl⟩:=hE.out;refine go ?_;refine CW.fl [1,6,7,10,53] fun e=>?_;refine ch h (fun aG h=>?_) fun aG h=>?_
   · refine gs ?_;refine CW.block ?_;refine gs ?_;obtain ⟨bc,aM,a4⟩:=ob h;refine CW.jn [1,6,7,10] [0] [(69,.bool bc)] q (h1:=?_) (h2:=?_)
     · have h:=aM;refine gb h fun bR ad h=>?_;obtain ⟨bo,bu,hae,W,Y⟩:=q.ownIdx (α:=DRes) (i:=0) rfl ad;cases hae;refine ix W Y ?_;refine go ?_;obtain ⟨bk,z,s⟩:=q.freeze (α:=DRes) 0 rfl;obtain ⟨bp,bv,bg,hae,O,_,_,aK,U⟩:=z.rdF.idx ad;cases hae;obtain rfl:=aK;refine LW.l (Ldr.old ar ag4 rfl (U 0 _ rfl)) (s.zC 0 rfl O) rfl ?_;refine go ?_;rcases bh h with ⟨aH,h⟩ | ⟨aH,h⟩
       · refine go ?_;refine ix W Y ?_;refine go ?_;refine LW.l (Ldr.old ar ag3 rfl (U 1 _ rfl)) (s.zC 0 rfl O) rfl ?_;refine go ?_;have aB:=s.thaw (α:=DRes) 0 rfl z;cases oi h;exact aB.po [0]
       refine go ?_;have aC:=s.thaw (α:=DRes) 0 rfl z;cases oi h;exact aC.po [0]
     intro e bK y;have h:=a4;refine go ?_;refine ch h (fun aI h=>?_) fun aI h=>?_
     · refine gb h fun bS ae h=>?_;obtain ⟨bq,bw,hae,aS,aW⟩:=y.ownIdx (α:=DRes) (i:=0) rfl ae;cases hae;refine ix aS aW ?_;refine gb h fun aw af h=>?_;refine LW.se 1 y 0 ae af (hM:=(leafF (fun w cs F hF=>by obtain ⟨rfl,rfl⟩:=hF;exact ⟨rfl,rfl⟩))) fun bL aD=>?_;refine go ?_;replace h:=oi h;subst h;exact ⟨rfl,⟨⟨rfl,(show (vS (some ⟨f,g,none⟩) n.1.length k:Value)=vS (some ⟨f,g,none⟩) aw.length k by rw [show n.1.length=aw.length from (len_set (oi af))]),rfl,rfl,trivial⟩,aD.pk [0]⟩⟩
     refine go ?_;cases oi h;exact ⟨rfl,(y.po [0])⟩
   refine go ?_;cases oi h;exact ⟨trivial,rfl,(q.po [0])⟩
 rintro e bM ⟨hE,aE⟩;obtain ⟨e,rfl⟩:=hE.out;have h:=a5;refine go ?_;cases h;exact And.intro trivial ⟨_,Res.two (resOne.t rfl) (resOne.t rfl),(some ⟨f,g,none⟩),k,rfl,aE.pk [0]⟩
theorem W_i_HeapOk {w0 N c r} (h:F_i_HeapOk N c=some r) {f y i} (B:y=c.arena.length) (G:rb w0 f i c.arena) {g z j} (C:z=c.gc.grey.length) (b:rb w0 g j c.gc.grey) :
    Ret Tryz.prog 153 #[.agg #[vS f y i,vI c.gc.phase,vI c.gc.pos,vI c.gc.round,vS g z j]] w0 (fun v w=>v=.bool r∧St w0 [] w []):=by
 subst B C;unfold F_i_HeapOk at h;refine Ret.fn Tryz.func153 fun e=>?_;have av:=St.start w0;refine go ?_;refine LW.bo av fun a3 a4 aw=>?_;refine go ?_;obtain ⟨K,ah,H⟩:=ob h;refine CW.mono (CW.lx [1,9,10] [0] [1] 0 (fun aF=>[(11,vI aF)]) (RT Tryz.prog Tryz.f153.results (fun u=>.bool u) w0 []) aw ah (hb:=?_)) ?_
 · intro aF e a5 o d h;refine go ?_;refine ch h (fun ay h=>?_) fun ay h=>?_
   · refine gb h fun a6 aB h=>?_;obtain ⟨a2,aJ,aG,rfl,q,az,aA,rfl,af⟩:=b.idx aB;refine ix az aA ?_;refine LW.l (Ldr.old w0 ag3 rfl (af 0 _ rfl)) (d.same _ q.1 q.2) rfl ?_;refine gs ?_;obtain ⟨aC,ac,aq⟩:=ob h;refine CW.jn [1,9,10,11] [0] [(27,.bool aC)] d (h1:=?_) (h2:=?_)
     · have h:=ac;refine gb h fun aV aj h=>?_;refine LW.c0 (W_i_isSlot aj) d fun aL m=>?_;refine go ?_;rcases bh h with ⟨O,h⟩ | ⟨O,h⟩
       · refine go ?_;cases oi h;exact m.po [0]
       refine gb h fun aW s h=>?_;obtain ⟨aH,aI,aa,ab,ai⟩:=rdS.sub' b s;have A:=(b).le;refine go ?_;refine LW.u (Pur.sub (α:=Int) (l:=c.gc.grey) Tryz.underlying24 sz3 rfl bndN (bndS rfl) s A aa ab) rfl ?_;refine go ?_;refine LW.fl [1,9,10,11,19,24,25] fun e=>?_;have ⟨aX,ak,h⟩:=ob h;refine go ?_;refine LW.c0 (W_z_Contains_int ak rfl (m.rB ai)) m fun aM ax=>?_;refine go ?_;cases oi h;exact ax.po [0]
     intro e aN I;have h:=aq;refine go ?_;refine CW.fl [1,9,10,11,27] fun e=>?_;refine ch h (fun R h=>?_) fun R h=>?_
     · refine go ?_;cases oi h;exact ⟨trivial,rfl,_,rfl,⟨_,Res.one (resOne.t rfl),rfl,I.pk []⟩⟩
     refine go ?_;cases oi h;exact ⟨rfl,(I.po [0])⟩
   refine go ?_;cases oi h;exact ⟨trivial,rfl,(d.po [0])⟩
 intro x e aO hM;rcases K with K | aK
 · obtain ⟨rfl,hM⟩:=hM;obtain ⟨hE,n⟩:=hM;obtain ⟨e,rfl⟩:=hE.out;have h:=H;refine gs ?_;obtain ⟨aD,ad,ar⟩:=ob h;refine CW.jn [1] [0] [(5,.bool aD)] n (h1:=?_) (h2:=?_)
   · have h:=ad;refine go ?_;rcases bh h with ⟨U,h⟩ | ⟨U,h⟩
     · refine go ?_;cases oi h;exact n.po [0]
     refine go ?_;cases oi h;exact n.po [0]
   intro e aP p;have h:=ar;refine gs ?_;obtain ⟨aE,ae,au⟩:=ob h;refine CW.jn [1,5] [0] [(6,.bool aE)] p (h1:=?_) (h2:=?_)
   · have h:=ae;refine go ?_;rcases bh h with ⟨V,h⟩ | ⟨V,h⟩
     · refine gb h fun aY am h=>?_;refine go ?_;refine LW.c0 (W_i_isSlot am) p fun aQ J=>?_;refine go ?_;rcases bh h with ⟨W,h⟩ | ⟨W,h⟩
       · refine go ?_;cases oi h;exact J.po [0]
       refine go ?_;cases oi h;exact J.po [0]
     refine go ?_;cases oi h;exact p.po [0]
   intro e aR k;have h:=au;refine gb h fun aZ an h=>?_;refine LW.c0 (W_i_ArenaOk an rfl (k.rB G)) k fun aS a=>?_;refine go ?_;rcases bh h with ⟨X,h⟩ | ⟨X,h⟩
   · refine go ?_;rcases bh h with ⟨Y,h⟩ | ⟨Y,h⟩
     · refine gb h fun a0 ao h=>?_;refine go ?_;refine LW.c0 (W_i_isTime ao) a fun aT L=>?_;refine go ?_;cases h;exact fi L
     refine go ?_;rcases bh h with ⟨Z,h⟩ | ⟨Z,h⟩
     · refine gb h fun a1 ap h=>?_;refine go ?_;refine LW.c0 (W_i_isTime ap) a fun aU M=>?_;refine go ?_;cases h;exact fi M
     refine go ?_;cases h;exact fi a
   refine go ?_;cases h;exact fi a
 obtain ⟨rfl,u,rfl,hM⟩:=hM;cases H;exact And.intro trivial hM
theorem W_s_Threads {w0 N a a1 r} (h:F_s_Threads N a a1=some r) {g V q} (ab:V=a.label.levels.length) (ai:rb w0 g q a.label.levels) {j W s} (ac:W=a.own.length) (aj:rb w0 j s a.own) {k X u} (ad:X=a.tree.length) (ak:rb w0 k u a.tree) {m Y x} (ae:Y=a.heap.arena.length) (A:rb w0 m x a.heap.arena) {n Z y} (af:Z=a.heap.gc.grey.length) (am:rb w0 n y a.heap.gc.grey) {p aa z} (ah:aa=a.taps.length) (an:rb w0 p z a.taps) :
    Ret Tryz.prog 64 #[.agg #[vS g V q,vS j W s,vS k X u,vS m Y x,vI a.heap.gc.phase,vI a.heap.gc.pos,vI a.heap.gc.round,vS n Z y,vS p aa z,vI a.next,vI a.want,vI a.spent.pages,vI a.spent.rent,vI a.spent.cpu,vI a.press,vI a.lost],vI a1] w0 (fun v w=>∃ ao ap,v=vS ao r.length ap∧St w0 [] w [sl ao ap r]):=by
 subst ab ac ad ae af ah;unfold F_s_Threads at h;refine Ret.fn Tryz.func64 fun e=>?_;have aR:=St.start w0;refine go ?_;refine LW.bo aR fun aq bw aS=>?_;refine go ?_;refine LW.bsl (α:=Int) (vs:=[]) (cs:=#[]) (l:=([]:List Int)) rfl (by kernel_rfl) rfl rfl rfl (fun w=>rfl) aS rfl ?_;intro aL aN bz d hf;refine gb h fun bB aX h=>?_;refine LW.c0 (W_s_PartOk aX rfl (d.rB ai) rfl (d.rB aj) rfl (d.rB ak) rfl (d.rB A) rfl (d.rB am) rfl (d.rB an)) d fun bA O=>?_;refine go ?_;refine ch h (fun aW h=>?_) fun aW h=>?_
 · refine go ?_;cases h;exact And.intro trivial ⟨_,Res.one (resOne.t rfl),aL,aN,rfl,O.pk [0]⟩
 refine gb h fun aK aY h=>?_;refine LW.cl (W_s_Reach aY rfl (O.rB A)) ?_;rintro _ bp ⟨I,J,rfl,hs⟩;have aT:=O.add hs;refine go ?_;obtain ⟨bm,aD,aQ⟩:=ob h;refine CW.ie aD 0 (fun f e wb=>∃ (b:Ad) (c:Nat),En e [(2,.pointer (some ⟨aq,0,none⟩)),(5,vS b f.1.length c),(6,vS I aK.length J),(7,vI f.2)]∧St w0 [] wb [sl I J aK,sl b c f.1,bx aq 37 [vS g a.label.levels.length q,vS j a.own.length s,vS k a.tree.length u,vS m a.heap.arena.length x,vI a.heap.gc.phase,vI a.heap.gc.pos,vI a.heap.gc.round,vS n a.heap.gc.grey.length y,vS p a.taps.length z,vI a.next,vI a.want,vI a.spent.pages,vI a.spent.rent,vI a.spent.cpu,vI a.press,vI a.lost]]) ?_ ⟨aL,aN,aT.po [0,1,2]⟩ ?_
 · intro f e a0 o hM h;obtain ⟨b,c,hE,C⟩:=hM;obtain ⟨e,rfl⟩:=hE.out;refine go ?_;refine CW.fl [2,5,6,7,21] fun e=>?_;refine ch h (fun aw h=>?_) fun aw h=>?_
   · refine gs ?_;refine CW.block ?_;refine gs ?_;obtain ⟨aZ,aA,aP⟩:=ob h;refine CW.jn [2,5,6,7] [0,1,2] [(37,.bool aZ)] C (h1:=?_) (h2:=?_)
     · have h:=aA;refine gb h fun bt U h=>?_;obtain ⟨bc,bj,hae,aE,aG⟩:=C.ownIdx (α:=Bool) (i:=0) rfl U;subst hae;refine ix aE aG ?_;obtain ⟨a8,B,H⟩:=C.freeze (α:=Bool) 0 rfl;obtain ⟨bd,bk,a2,hae,av,_,_,az,aB⟩:=B.rdF.idx U;cases hae;obtain rfl:=az;refine LW.l (Ldr.old a0 ag4 rfl (aB 0 _ rfl)) (H.zC 0 rfl av) rfl ?_;refine go ?_;rcases bh h with ⟨ax,h⟩ | ⟨ax,h⟩
       · refine gb h fun bu aI h=>?_;obtain ⟨be,bl,a4,rfl,R,aF,aH,⟨a9,bf,ba,bg,bb,bi,rfl,a5,a6,a7⟩,aC⟩:=A.idx aI;refine go ?_;refine ix aF aH ?_;refine go ?_;refine LW.l (Ldr.old w0 ag3 rfl (aC 1 _ rfl)) (H.same _ R.1 R.2) rfl ?_;refine go ?_;have aU:=H.thaw (α:=Bool) 0 rfl B;cases oi h;exact aU.po [0,1,2]
       refine go ?_;have aV:=H.thaw (α:=Bool) 0 rfl B;cases oi h;exact aV.po [0,1,2]
     intro e bq K;have h:=aP;refine go ?_;refine ch h (fun ay h=>?_) fun ay h=>?_
     · refine gb h fun bv aJ h=>?_;refine LW.app1 (M:=[]) (L:=[sl I J aK,sl b c f.1,bx aq 37 [vS g a.label.levels.length q,vS j a.own.length s,vS k a.tree.length u,vS m a.heap.arena.length x,vI a.heap.gc.phase,vI a.heap.gc.pos,vI a.heap.gc.round,vS n a.heap.gc.grey.length y,vS p a.taps.length z,vI a.next,vI a.want,vI a.spent.pages,vI a.spent.rent,vI a.spent.cpu,vI a.press,vI a.lost]]) (vs:=#[vI f.2]) (i:=1) sT24 rfl (by kernel_rfl) rfl rfl aJ K rfl (fun w G hG=>by cases (show G=[] from hG);exact ⟨rfl,rfl⟩) rfl rfl ?_;intro bn aM aO br ar hf;refine go ?_;cases oi h;exact ⟨rfl,⟨aM,aO,ar.po [0,1,2]⟩⟩
     refine go ?_;cases oi h;exact ⟨rfl,⟨b,c,K.po [0,1,2]⟩⟩
   refine go ?_;cases oi h;exact ⟨trivial,rfl,⟨b,c,C.po [0,1,2]⟩⟩
 rintro e bs ⟨b,c,hE,au⟩;obtain ⟨e,rfl⟩:=hE.out;have h:=aQ;refine go ?_;cases h;exact And.intro trivial ⟨_,Res.one (resOne.t rfl),b,c,rfl,au.pk [1]⟩
theorem W_s_GoodSlot {w0 N Z am an ao r} (h:F_s_GoodSlot N Z am an ao=some r) {l y m} (z:y=Z.length) (f:rb w0 l m Z) :
    Ret Tryz.prog 189 #[vS l y m,vI am,vI an,vI ao] w0 (fun v w=>v=vI r∧St w0 [] w []):=by
 subst z;unfold F_s_GoodSlot at h;refine Ret.fn Tryz.func189 fun e=>?_;have n:=St.start w0;refine gs ?_;refine CW.region ?_;refine gs ?_;obtain ⟨aw,ae,h2⟩:=ob h;refine CW.jn [0,1,3] [] [(23,.bool aw)] n (h1:=?_) (h2:=?_)
 · have h:=ae;refine gb h fun aY af h=>?_;refine LW.c0 (W_s_ArenaOk af rfl (n.rB f)) n fun aW A=>?_;refine go ?_;rcases bh h with ⟨ac,h⟩ | ⟨ac,h⟩
   · refine go ?_;cases oi h;exact A.po []
   refine gb h fun aZ ah h=>?_;refine go ?_;refine LW.c0 (W_s_l8Handle ah) A fun aX B=>?_;refine go ?_;rcases bh h with ⟨ad,h⟩ | ⟨ad,h⟩
   · refine go ?_;cases oi h;exact B.po []
   refine gb h fun a0 ai h=>?_;refine go ?_;refine LW.c0 (W_s_HandlePart ai) B fun aM ab=>?_;refine go ?_;cases oi h;exact ab.po []
 intro e aN C;have h:=h2;refine go ?_;refine ch h (fun I h=>?_) fun I h=>?_
 · refine go ?_;cases h;exact fi C
 refine gb h fun aR V h=>?_;refine LW.c0 (W_s_HandleSlot V) C fun aO G=>?_;refine gs ?_;obtain ⟨aj,L,aa⟩:=ob h;refine CW.jn [9] [] [(50,.bool aj)] G (h1:=?_) (h2:=?_)
 · have h:=L;refine CW.draw (by kernel_rfl) ?_;have j:=G.drew;refine gb h fun aS W h=>?_;obtain ⟨aC,aJ,ap,rfl,a,s,t,⟨ay,aF,az,aG,aA,aH,rfl,ar,au,av⟩,q⟩:=f.idx W;refine AW.u (i:=2) rfl (by kernel_rfl) rfl rfl (Pur.ix Tryz.underlying28 sz44 rfl rfl s t) ?_;refine go ?_;refine AW.take (i:=4) rfl (by kernel_rfl) rfl rfl (Ldr.old w0 ag3 rfl (q 1 _ rfl)) (j.same _ a.1 a.2) ?_;refine go ?_;rcases bh h with ⟨b,h⟩ | ⟨b,h⟩
   · refine go ?_;cases oi h;exact j.po []
   refine go ?_;refine AW.u (i:=9) rfl (by kernel_rfl) (want_of rfl rfl b) rfl (Pur.ix Tryz.underlying28 sz44 rfl rfl s t) ?_;refine go ?_;refine AW.take (i:=11) rfl (by kernel_rfl) (want_of rfl rfl b) rfl (Ldr.old w0 ag3 rfl (q 0 _ rfl)) (j.same _ a.1 a.2) ?_;refine gb h fun aT X h=>?_;refine jO 13 ?_;refine (LW.gY (want_of rfl rfl b) ?_);refine LW.cl (W_s_HandleGen X) ?_;rintro _ aP ⟨rfl,hs⟩;have g:=j.add hs;refine jN (.c (g.same _ a.1 a.2) (.c (g.same _ a.1 a.2) jZ)) ?_;refine go ?_;rcases bh h with ⟨d,h⟩ | ⟨d,h⟩
   · refine go ?_;cases oi h;exact g.po []
   refine gb h fun aU Y h=>?_;refine jO 19 ?_;refine (LW.gY (want_of rfl rfl d) ?_);refine LW.cl (W_s_Reach Y rfl (g.rB f)) ?_;rintro _ ak ⟨aB,aI,rfl,hs⟩;have k:=g.add hs;refine jN (.c (k.same _ a.1 a.2) (.c (k.same _ a.1 a.2) jZ)) ?_;have ⟨aV,x,h⟩:=ob h;obtain ⟨aD,aK,hae,R,U⟩:=k.ownIdx (α:=Bool) (i:=0) rfl x;subst hae;refine AW.u (i:=21) rfl (by kernel_rfl) (want_of rfl rfl d) rfl (Pur.ix Tryz.underlying71 sz4 rfl rfl R U) ?_;obtain ⟨ax,O,o⟩:=k.freeze (α:=Bool) 0 rfl;obtain ⟨aE,aL,aq,hae,H,_,_,K,M⟩:=O.rdF.idx x;cases hae;obtain rfl:=K;refine AW.take (i:=22) rfl (by kernel_rfl) (want_of rfl rfl d) rfl (Ldr.old ak ag4 rfl (M 0 _ rfl)) (o.zC 0 rfl H) ?_;refine go ?_;cases oi h;exact o.po []
 intro e aQ p;have h:=aa;refine go ?_;refine ch h (fun J h=>?_) fun J h=>?_
 · refine go ?_;cases h;exact fi p
 refine go ?_;cases h;exact fi p
theorem W_s_TreeSplit {w0 N ab I a r} (h:F_s_TreeSplit N ab I a=some r) {k C n} (H:C=ab.length) (b:rb w0 k n ab) :
    Ret Tryz.prog 256 #[vS k C n,vI I,.agg #[vI a.pages,vI a.rent,vI a.cpu]] w0 (fun v w=>∃ c d,v=.tuple #[vS c r.1.length d,vI r.2.1,.bool r.2.2]∧St w0 [] w [sl c d r.1]):=by
 subst H;unfold F_s_TreeSplit at h;refine Ret.fn Tryz.func256 fun e=>?_;have af:=St.start w0;refine go ?_;refine LW.bo af fun aG aH K=>?_;refine gb h fun aq an h=>?_;refine LW.cl (W_s_TreePay an rfl (K.rB b)) ?_;rintro _ aI ⟨aF,O,rfl,hs⟩;have q:=K.add hs;refine go ?_;refine CW.fl [0,1,5,9,20] fun e=>?_;refine ch h (fun am h=>?_) fun am h=>?_
 · refine gb h fun aJ ao h=>?_;refine LW.cl (W_s_l6Copy ao rfl (q.rB b)) ?_;rintro _ az ⟨ar,ad,rfl,hs⟩;have ah:=q.add hs;refine go ?_;cases h;exact And.intro trivial ⟨_,Res.three (resOne.t rfl) (resOne.t rfl) (resOne.t rfl),ar,ad,rfl,ah.pk [0]⟩
 refine go ?_;obtain ⟨L,Z,J⟩:=ob h;refine CW.mono (CW.lx [0,1,5,9] [0,1] [0] 0 (fun j=>[(11,vI j)]) (fun r x e wb=>x=.ret∧∃ u,u=r∧∃ v,Res Tryz.prog Tryz.f256.results e wb v∧∃ c d,v=.tuple #[vS c u.1.length d,vI u.2.1,.bool u.2.2]∧St w0 [] wb [sl c d u.1]) q Z (hb:=?_)) ?_
 · intro j e ap o s h;refine go ?_;refine ch h (fun V h=>?_) fun V h=>?_
   · refine gb h fun aD g h=>?_;obtain ⟨m,G,hae,z,A⟩:=s.ownIdx (α:=DRes) (i:=0) rfl g;subst hae;refine ix z A ?_;refine go ?_;obtain ⟨av,f,y⟩:=s.freeze (α:=DRes) 0 rfl;obtain ⟨aw,ax,au,hae,U,_,_,X,Y⟩:=f.rdF.idx g;cases hae;obtain rfl:=X;refine LW.l (Ldr.old ap ag4 rfl (Y 0 _ rfl)) (y.zC 0 rfl U) rfl ?_;refine go ?_;refine CW.fl [0,1,5,9,11,34] fun e=>?_;refine ch h (fun W h=>?_) fun W h=>?_
     · refine go ?_;refine LW.u (Pur.build (vs:=[(0,.bool true),(1,vI I),(2,.agg #[vI a.pages,vI a.rent,vI a.cpu])]) (cs:=#[.bool true,vI I,vI a.pages,vI a.rent,vI a.cpu]) rfl (by kernel_rfl)) rfl ?_;refine ix z A ?_;have ai:=y.thaw (α:=DRes) 0 rfl f;have ⟨M,B,h⟩:=ob h;refine LW.se 0 ai 0 g B (hM:=whF) fun aA aj=>?_;refine go ?_;replace h:=oi h;subst h;exact ⟨trivial,rfl,_,rfl,⟨_,Res.three (resOne.t rfl) (resOne.t rfl) (resOne.t rfl),(some ⟨m,G,none⟩),O,(show (.tuple #[vS (some ⟨m,G,none⟩) aq.1.length O,vI j,.bool true]:Value)=.tuple #[vS (some ⟨m,G,none⟩) M.length O,vI j,.bool true] by rw [show aq.1.length=M.length from (len_set (oi B))]),aj.pk [0]⟩⟩
     refine go ?_;have ak:=y.thaw (α:=DRes) 0 rfl f;cases oi h;exact ⟨rfl,(ak.po [0,1])⟩
   refine go ?_;cases oi h;exact ⟨trivial,rfl,(s.po [0,1])⟩
 intro x e aB hM;rcases L with L | ay
 · obtain ⟨rfl,hM⟩:=hM;obtain ⟨hE,p⟩:=hM;obtain ⟨e,rfl⟩:=hE.out;have h:=J;refine gb h fun aE aa h=>?_;refine LW.cl (W_s_l6Copy aa rfl (p.rB b)) ?_;rintro _ aC ⟨ac,ae,rfl,hs⟩;have R:=p.add hs;refine go ?_;cases h;exact And.intro trivial ⟨_,Res.three (resOne.t rfl) (resOne.t rfl) (resOne.t rfl),ac,ae,rfl,R.pk [0]⟩
 obtain ⟨rfl,u,rfl,hM⟩:=hM;cases J;exact And.intro trivial hM
theorem W_s_TreeGive {w0 N s K L j r} (h:F_s_TreeGive N s K L j=some r) {d g f} (i:g=s.length) (a:rb w0 d f s) :
    Ret Tryz.prog 257 #[vS d g f,vI K,vI L,.agg #[vI j.pages,vI j.rent,vI j.cpu]] w0 (fun v w=>∃ k l,v=.tuple #[vS k r.1.length l,.bool r.2]∧St w0 [] w [sl k l r.1]):=by
 subst i;unfold F_s_TreeGive at h;refine Ret.fn Tryz.func257 fun e=>?_;have A:=St.start w0;refine go ?_;refine LW.bo A fun ab ac m=>?_;refine gb h fun af I h=>?_;refine LW.c0 (W_s_l6Live I rfl (m.rB a)) m fun ad b=>?_;refine go ?_;refine ch h (fun H h=>?_) fun H h=>?_
 · refine gb h fun ah J h=>?_;refine LW.cl (W_s_l6Copy J rfl (b.rB a)) ?_;rintro _ ae ⟨M,O,rfl,hs⟩;have B:=b.add hs;refine go ?_;cases h;exact And.intro trivial ⟨_,Res.two (resOne.t rfl) (resOne.t rfl),M,O,rfl,B.pk [0]⟩
 refine gb h fun Y o h=>?_;refine LW.cl (W_s_TreePay o rfl (b.rB a)) ?_;rintro _ V ⟨R,U,rfl,hs⟩;have c:=b.add hs;refine go ?_;refine CW.fl [0,2,7,10,26] fun e=>?_;refine ch h (fun n h=>?_) fun n h=>?_
 · refine gb h fun Z p h=>?_;refine LW.cl (W_s_l6Copy p rfl (c.rB a)) ?_;rintro _ W ⟨u,y,rfl,hs⟩;have C:=c.add hs;refine go ?_;cases h;exact And.intro trivial ⟨_,Res.two (resOne.t rfl) (resOne.t rfl),u,y,rfl,C.pk [0]⟩
 refine gb h fun aa q h=>?_;refine LW.cl (W_s_TreeBack q rfl (c.rI 0 rfl)) ?_;rintro _ X ⟨x,z,rfl,hs⟩;have G:=c.add hs;refine go ?_;cases h;exact And.intro trivial ⟨_,Res.two (resOne.t rfl) (resOne.t rfl),x,z,rfl,G.pk [0]⟩
end Go.Kx
