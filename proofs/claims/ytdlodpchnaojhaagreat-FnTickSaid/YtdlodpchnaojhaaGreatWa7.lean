/- Each call returns what the plain function says. Printed by drive.py. -/
import Derived.Test.YtdlodpchnaojhaaGreatFa
import Derived.Test.YtdlodpchnaojhaaGreatPu
import Derived.Test.YtdlodpchnaojhaaGreatWa5
import Derived.Test.YtdlodpchnaojhaaGreatWa6
namespace Go.Kx
open Go Go.RowKit Go.Proofs
set_option maxRecDepth 10000
set_option maxHeartbeats 8000000
set_option linter.unusedVariables false
set_option linter.unusedSimpArgs false
theorem DL {w0 N a r} (h:rJ N a=some r) {g q m} (J:q=a.il.length) (M:rb w0 g m a.il) {i s n} (K:s=a.data.length) (O:rb w0 i n a.data) {k t p} (L:t=a.queue.length) (R:rb w0 k p a.queue) :
    iq Tryz.prog 325 #[.agg #[vI a.gen,vI a.kind,vI a.box,vI a.res,vI a.iU,vI a.bh,vI a.wait,vI a.iW,vI a.iR,.bool a.mark,vS g q m,vS i s n,vS k t p]] w0 (fun v w=>v=.bool r∧St w0 [] w []):=by
 subst J K L;unfold rJ at h;refine iq.fn Tryz.func325 fun e=>?_;have aE:=St.start w0;refine go ?_;refine LW.bo aE fun bu bv aF=>?_;refine go ?_;obtain ⟨Z,ap,U⟩:=ob h;refine CW.mono (CW.lx [1,12,13] [0] [1] 0 (fun aM=>[(14,vI aM)]) (RT Tryz.prog Tryz.f325.results (fun u=>.bool u) w0 []) aF ap (hb:=?_)) ?_
 · intro aM e bw o A h;refine gc h ?_ ?_ <;> intro _ h
   · refine gb h fun bz aI h=>?_;obtain ⟨bt,aZ,aN,rfl,G,aX,aY,rfl,am⟩:=M.idx aI;refine go ?_;refine LW.l (iC.iP w0 jc rfl (am 0 _ rfl)) (A.same _ G.1 G.2) rfl ?_;refine gb h fun bl au h=>?_;refine LW.c0 (jE au) A fun a5 X=>?_;refine go ?_;refine CW.fl [1,12,13,14,20] fun e=>?_;refine gc h ?_ ?_ <;> intro _ h
     · refine go ?_;cases oi h;exact ⟨trivial,rfl,_,rfl,rx ⟨rfl,X.pk []⟩⟩
     refine go ?_;cases oi h;exact ⟨rfl,(X.po [0])⟩
   refine go ?_;cases oi h;exact ⟨trivial,rfl,(A.po [0])⟩
 intro x e a6 hM;rcases Z with Z | a4
 · obtain ⟨rfl,hM⟩:=hM;obtain ⟨e,rfl,aG⟩:=eo hM;have h:=U;refine go ?_;obtain ⟨aa,aq,V⟩:=ob h;refine CW.mono (CW.lx [1,23,24] [0] [1] 2 (fun ac=>[(25,vI ac)]) (RT Tryz.prog Tryz.f325.results (fun u=>.bool u) w0 []) aG aq (hb:=?_)) ?_
   · intro ac e a7 o B h;refine gc h ?_ ?_ <;> intro _ h
     · refine gb h fun bm av h=>?_;obtain ⟨aU,a0,aO,rfl,H,aQ,aS,rfl,an⟩:=O.idx av;refine go ?_;refine LW.l (iC.iP w0 jc rfl (an 0 _ rfl)) (B.same _ H.1 H.2) rfl ?_;refine gb h fun bn aw h=>?_;refine LW.c0 (jE aw) B fun a8 Y=>?_;refine go ?_;refine CW.fl [1,23,24,25,31] fun e=>?_;refine gc h ?_ ?_ <;> intro _ h
       · refine go ?_;cases oi h;exact ⟨trivial,rfl,_,rfl,rx ⟨rfl,Y.pk []⟩⟩
       refine go ?_;cases oi h;exact ⟨rfl,(Y.po [0])⟩
     refine go ?_;cases oi h;exact ⟨trivial,rfl,(B.po [0])⟩
   intro x e a9 hM;rcases aa with aa | a3
   · obtain ⟨rfl,hM⟩:=hM;obtain ⟨e,rfl,aH⟩:=eo hM;have h:=V;refine go ?_;obtain ⟨ab,ar,W⟩:=ob h;refine CW.mono (CW.lx [1,34,35] [0] [1] 4 (fun ad=>[(36,vI ad)]) (RT Tryz.prog Tryz.f325.results (fun u=>.bool u) w0 []) aH ar (hb:=?_)) ?_
     · intro ad e ba o C h;refine go ?_;refine CW.fl [1,34,35,36,37] fun e=>?_;refine gc h ?_ ?_ <;> intro _ h
       · refine gb h fun bp ax h=>?_;obtain ⟨aV,a1,aP,rfl,I,aR,aT,rfl,ao⟩:=R.idx ax;refine go ?_;refine LW.l (iC.jH w0 wi rfl rfl (fun j u hu=>ao j u hu)) (C.same _ I.1 I.2) rfl ?_;refine LW.al C fun aW bb ae=>?_;refine LW.st ae 0 fun bc b=>?_;refine gs ?_;obtain ⟨aJ,ai,aB⟩:=ob h;refine CW.jn [1,34,35,36] [1] [(54,.bool aJ)] b (h1:=?_) (h2:=?_)
         · have h:=ai;refine gB h ?_ ?_ <;> intro _ h
           · refine gb h fun bq ay h=>?_;refine go ?_;refine LW.c0 (oI ay) b fun bd y=>?_;refine gB h ?_ ?_ <;> intro _ h
             · refine go ?_;cases oi h;exact y.po [1]
             refine gb h fun br az h=>?_;refine go ?_;refine LW.c0 (jE az) y fun be af=>?_;refine go ?_;cases oi h;exact af.po [1]
           refine gb h fun bs aA h=>?_;refine go ?_;refine LW.c0 (jE aA) b fun bf ah=>?_;refine go ?_;cases oi h;exact ah.po [1]
         intro e bg z;have h:=aB;refine gc h ?_ ?_ <;> intro _ h
         · refine go ?_;cases oi h;exact ⟨trivial,rfl,_,rfl,rx ⟨rfl,z.pk []⟩⟩
         refine go ?_;cases oi h;exact ⟨rfl,(z.po [0])⟩
       refine go ?_;cases oi h;exact ⟨trivial,rfl,(C.po [0])⟩
     intro x e bi hM;rcases ab with ab | a2
     · obtain ⟨rfl,hM⟩:=hM;obtain ⟨e,rfl,c⟩:=eo hM;have h:=W;refine gs ?_;refine CW.region ?_;refine gs ?_;refine CW.region ?_;refine gs ?_;obtain ⟨aK,aj,aC⟩:=ob h;refine CW.jn [1,10] [0] [(9,vI aK)] c (h1:=?_) (h2:=?_)
       · have h:=aj;refine CW.fl [1,9,10,58] fun e=>?_;refine gc h ?_ ?_ <;> intro _ h
         · refine go ?_;cases oi h;exact c.po [0]
         refine go ?_;cases oi h;exact c.po [0]
       intro e bj d;have h:=aC;refine gs ?_;refine CW.region ?_;refine gs ?_;obtain ⟨aL,ak,aD⟩:=ob h;refine CW.jn [1,9] [0] [(10,vI aL)] d (h1:=?_) (h2:=?_)
       · have h:=ak;refine CW.fl [1,9,10,63] fun e=>?_;refine gc h ?_ ?_ <;> intro _ h
         · refine go ?_;cases oi h;exact d.po [0]
         refine go ?_;cases oi h;exact d.po [0]
       intro e bk f;have h:=aD;refine go ?_;refine bH h ?_ ?_ <;> intro _ h
       · refine gB h ?_ ?_ <;> intro _ h
         · refine go ?_;cases h;exact fi f
         refine go ?_;cases h;exact fi f
       refine go ?_;cases h;exact fi f
     obtain ⟨rfl,u,rfl,hM⟩:=hM;cases W;exact And.intro trivial hM
   obtain ⟨rfl,u,rfl,hM⟩:=hM;cases V;exact And.intro trivial hM
 obtain ⟨rfl,u,rfl,hM⟩:=hM;cases U;exact And.intro trivial hM
theorem xv {w0 N a r} (h:qD N a=some r) :
    iq Tryz.prog 144 #[.agg #[vI a.res,vI a.jJ,vI a.mf,vI a.kp,vI a.kind,vI a.lk]] w0 (fun v w=>v=.bool r∧St w0 [] w []):=by
 unfold qD at h;refine iq.fn Tryz.func144 fun e=>?_;have p:=St.start w0;refine go ?_;refine LW.bo p fun R U d=>?_;refine gs ?_;obtain ⟨z,t,y⟩:=ob h;refine CW.jn [1] [0] [(24,.bool z)] d (h1:=?_) (h2:=?_)
 · have h:=t;refine gb h fun X u h=>?_;refine LW.c0 (tS u) d fun V f=>?_;refine gB h ?_ ?_ <;> intro _ h
   · refine go ?_;cases oi h;exact f.po [0]
   refine gb h fun Y x h=>?_;refine go ?_;refine LW.c0 (tS x) f fun W g=>?_;refine gB h ?_ ?_ <;> intro _ h
   · refine go ?_;cases oi h;exact g.po [0]
   refine gb h fun J k h=>?_;refine go ?_;refine LW.c0 (zJ k) g fun A i=>?_;refine gB h ?_ ?_ <;> intro _ h
   · refine go ?_;cases oi h;exact i.po [0]
   refine gb h fun K l h=>?_;refine go ?_;refine LW.c0 (jE l) i fun B q=>?_;refine go ?_;cases oi h;exact q.po [0]
 intro e C b;have h:=y;refine gc h ?_ ?_ <;> intro _ h
 · refine go ?_;cases h;exact fi b
 refine gB h ?_ ?_ <;> intro _ h
 · refine gb h fun L m h=>?_;refine go ?_;refine LW.c0 (jE m) b fun G c=>?_;refine gB h ?_ ?_ <;> intro _ h
   · refine go ?_;cases h;exact fi c
   refine gB h ?_ ?_ <;> intro _ h
   · refine gb h fun M n h=>?_;refine go ?_;refine LW.c0 (jE n) c fun H s=>?_;refine go ?_;cases h;exact fi s
   refine go ?_;cases h;exact fi c
 refine gB h ?_ ?_ <;> intro _ h
 · refine gb h fun O o h=>?_;refine go ?_;refine LW.c0 (jE o) b fun I j=>?_;refine go ?_;cases h;exact fi j
 refine go ?_;cases h;exact fi b
theorem yy {w0 N n ab r} (h:oe N n ab=some r) {d x f} (y:x=n.length) (g:rb w0 d f n) :
    iq Tryz.prog 213 #[vS d x f,vI ab] w0 (fun v w=>∃ z A,v=vS z r.length A∧St w0 [] w [sl z A r]):=by
 subst y;unfold oe at h;refine iq.fn Tryz.func213 fun e=>?_;have ai:=St.start w0;refine go ?_;refine LW.jV (α:=Int) (vs:=[]) (cs:=#[]) (l:=([]:List Int)) rfl (by kernel_rfl) rfl rfl rfl (fun w=>rfl) ai rfl ?_;intro ar au bq aj hf;refine go ?_;obtain ⟨bc,V,ah⟩:=ob h;refine CW.ie V 0 (fun m e wb=>∃ (a:Ad) (b:Nat),En e [(0,vS d n.length f),(1,vI ab),(5,vS a m.1.length b),(10,vS d n.length f),(11,vI (n.length:Int)),(12,vI m.2)]∧St w0 [] wb [sl a b m.1]) ?_ ⟨ar,au,aj.po [0]⟩ ?_
 · intro m e br o hM h;obtain ⟨a,b,hE,p⟩:=hM;obtain ⟨e,rfl⟩:=hE.out;refine gc h ?_ ?_ <;> intro _ h
   · refine gb h fun bs ao h=>?_;obtain ⟨aT,a9,av,rfl,q,a7,a8,⟨aK,aW,aL,aX,aM,aY,rfl,aC,aD,aE⟩,O⟩:=g.idx ao;refine go ?_;refine LW.l (iC.jH w0 kW rfl rfl (fun j u hu=>O j u hu)) (p.same _ q.1 q.2) rfl ?_;refine LW.al p fun a6 be ak=>?_;refine go ?_;refine LW.st ak 0 fun bf c=>?_;refine gs ?_;obtain ⟨ap,J,ae⟩:=ob h;refine CW.jn [0,1,5,6,10,11,12] [1] [(8,.bool ap)] c (h1:=?_) (h2:=?_)
     · have h:=J;refine gB h ?_ ?_ <;> intro _ h
       · refine gB h ?_ ?_ <;> intro _ h
         · refine go ?_;refine bH h ?_ ?_ <;> intro _ h
           · refine gb h fun bm X h=>?_;obtain ⟨aU,ba,aw,hae,s,ay,aA,H,R⟩:=g.idx X;cases hae;obtain ⟨aN,aZ,aO,a0,aP,a2,rfl,aF,aG,aH⟩:=H;refine go ?_;refine LW.l (iC.iP w0 jc rfl (R 1 _ rfl)) (c.same _ s.1 s.2) rfl ?_;refine go ?_;cases oi h;exact c.po [1]
           refine go ?_;cases oi h;exact c.po [1]
         refine go ?_;cases oi h;exact c.po [1]
       refine go ?_;cases oi h;exact c.po [1]
     intro e bg k;have h:=ae;refine gs ?_;obtain ⟨aq,K,af⟩:=ob h;refine CW.jn [0,1,5,6,10,11,12] [0] [(47,.bool aq)] k (h1:=?_) (h2:=?_)
     · have h:=K;refine gB h ?_ ?_ <;> intro _ h
       · refine go ?_;cases oi h;exact k.po [0]
       refine gb h fun bn Y h=>?_;obtain ⟨aV,bb,ax,hae,t,az,aB,I,U⟩:=g.idx Y;cases hae;obtain ⟨aQ,a3,aR,a4,aS,a5,rfl,W,aI,aJ⟩:=I;refine go ?_;refine LW.l (iC.iP w0 nE rfl (U 10 _ rfl)) (k.same _ t.1 t.2) rfl ?_;refine gb h fun bo Z h=>?_;refine go ?_;refine LW.c0 (sm Z rfl (k.rB W)) k fun bi am=>?_;refine go ?_;cases oi h;exact am.po [0]
     intro e bj B;have h:=af;refine go ?_;refine CW.fl [0,1,5,6,10,11,12,47] fun e=>?_;refine gc h ?_ ?_ <;> intro _ h
     · refine gb h fun bp aa h=>?_;refine LW.lj (M:=[]) (L:=[sl a b m.1]) (vs:=#[vI m.2]) (i:=0) mT rfl (by kernel_rfl) rfl rfl aa B rfl (fun w G hG=>by cases (show G=[] from hG);exact ⟨rfl,rfl⟩) rfl rfl ?_;intro bd ac ad bk an hf;refine go ?_;cases oi h;exact ⟨rfl,⟨ac,ad,an.po [0]⟩⟩
     refine go ?_;cases oi h;exact ⟨rfl,⟨a,b,B.po [0]⟩⟩
   refine go ?_;cases oi h;exact ⟨trivial,rfl,⟨a,b,p.po [0]⟩⟩
 rintro e bl ⟨a,b,hE,C⟩;obtain ⟨e,rfl⟩:=hE.out;have h:=ah;refine go ?_;cases h;exact Ra ⟨a,b,rfl,C.pk [0]⟩
theorem Aa {w0 N d r} (h:oA N d=some r) :
    iq Tryz.prog 141 #[vI d] w0 (fun v w=>v=vI r∧St w0 [] w []):=by
 unfold oA at h;refine iq.fn Tryz.func141 fun e=>?_;have b:=St.start w0;refine gb h fun g c h=>?_;refine LW.c0 (oI c) b fun f a=>?_;refine gc h ?_ ?_ <;> intro _ h
 · refine go ?_;cases h;exact fi a
 refine go ?_;refine LW.u (iD.rem rfl rfl (by decide)) rfl ?_;refine go ?_;cases h;exact fi a
theorem Au {w0 N d r} (h:oy N d=some r) :
    iq Tryz.prog 208 #[vI d] w0 (fun v w=>v=vI r∧St w0 [] w []):=by
 unfold oy at h;refine iq.fn Tryz.func208 fun e=>?_;have b:=St.start w0;refine gb h fun g c h=>?_;refine LW.c0 (oI c) b fun f a=>?_;refine gc h ?_ ?_ <;> intro _ h
 · refine go ?_;cases h;exact fi a
 refine go ?_;refine LW.u (iD.quo rfl rfl (by decide)) rfl ?_;refine LW.u (iD.rem rfl rfl (by decide)) rfl ?_;refine go ?_;cases h;exact fi a
theorem Bt {w0 N d r} (h:pc N d=some r) :
    iq Tryz.prog 209 #[vI d] w0 (fun v w=>v=vI r∧St w0 [] w []):=by
 unfold pc at h;refine iq.fn Tryz.func209 fun e=>?_;have b:=St.start w0;refine gb h fun g c h=>?_;refine LW.c0 (oI c) b fun f a=>?_;refine gc h ?_ ?_ <;> intro _ h
 · refine go ?_;cases h;exact fi a
 refine go ?_;refine LW.u (iD.quo rfl rfl (by decide)) rfl ?_;refine LW.u (iD.quo rfl rfl (by decide)) rfl ?_;refine go ?_;cases h;exact fi a
theorem GY {w0} {F:List Nat} {N a U r} (h:tW N a U=some r) {C:Nat} {f b c d} (hS:St w0 F w0 [bx C 40 [vS f a.ag.length b,vI a.gc.phase,vI a.gc.pos,vI a.gc.round,vS c a.gc.ia.length d],sl f b a.ag,sl c d a.gc.ia]) :
    iq Tryz.prog 214 #[.pointer (some ⟨C,0,none⟩),vI U] w0 (fun v w=>∃ k o, ∃ m p,v=.tuple #[]∧St w0 F w [bx C 40 (qH k o m p r),sl k o r.ag,sl m p r.gc.ia]):=by
 unfold tW at h;refine iq.fn Tryz.func214 fun e=>?_;refine gs ?_;obtain ⟨ai,aa,h2⟩:=ob h;refine CW.jn [0,1] [0,1,2] [(30,.bool ai)] hS (h1:=?_) (h2:=?_)
 · have h:=aa;refine go ?_;refine LW.u (iD.nc rfl) rfl ?_;refine gB h ?_ ?_ <;> intro _ h
   · refine go ?_;cases oi h;exact ⟨⟨rfl,rfl,rfl,trivial⟩,hS.pk [0,1,2]⟩
   refine go ?_;refine LW.u (iD.nc rfl) rfl ?_;refine gb h fun aO J h=>?_;obtain ⟨aM,aN,hae,az,aA⟩:=hS.iJ (α:=cd) (i:=1) rfl J;subst hae;refine go ?_;obtain ⟨aL,g,q⟩:=hS.freeze (α:=cd) 1 rfl;obtain ⟨av,aB,ab,hae,y,_,_,K,z⟩:=g.kr.idx J;cases hae;obtain ⟨aq,aw,ar,ax,au,ay,rfl,ae,af,ah⟩:=K;refine go ?_;refine LW.l (iC.iP w0 jc rfl (z 1 _ rfl)) (q.zC 1 rfl y) rfl ?_;refine gB h ?_ ?_ <;> intro _ h
   · refine go ?_;have X:=q.jj (α:=cd) 1 rfl g;cases oi h;exact X.po [0,1,2]
   refine go ?_;refine LW.u (iD.nc rfl) rfl ?_;refine go ?_;refine LW.l (iC.iP w0 qI rfl (z 9 _ rfl)) (q.zC 1 rfl y) rfl ?_;refine go ?_;have Y:=q.jj (α:=cd) 1 rfl g;cases oi h;exact Y.po [0,1,2]
 intro e aD t;have h:=h2;refine gc h ?_ ?_ <;> intro _ h
 · refine go ?_;replace h:=oi h;subst h;exact And.intro trivial ⟨_,jB.zero , f,b,c,d,rfl,t.pk [0,1,2]⟩
 refine go ?_;refine LW.u (iD.nc rfl) rfl ?_;refine gb h fun aI A h=>?_;obtain ⟨n,s,hae,ac,ad⟩:=t.iJ (α:=cd) (i:=1) rfl A;subst hae;refine go ?_;refine gb h fun B j h=>?_;refine LW.se 9 t 1 A j (hM:=(kq (fun w cs F hF=>by obtain ⟨aj,an,ak,ao,am,ap,rfl,hH⟩:=hF;exact ⟨aj,an,ak,ao,am,ap,rfl,hH⟩))) fun aE H=>?_;refine go ?_;refine LW.u (iD.nc rfl) rfl ?_;refine gb h fun aJ O h=>?_;refine LW.c0 (sm O rfl (H.rI 2 rfl)) H fun aF x=>?_;refine go ?_;refine CW.fl [0,1,45] fun e=>?_;refine gc h ?_ ?_ <;> intro _ h
 · refine go ?_;refine LW.u (iD.nc rfl) rfl ?_;refine gb h fun aK R h=>?_;refine LW.lj (M:=[]) (L:=[bx C 40 [vS (some ⟨n,s,none⟩) a.ag.length b,vI a.gc.phase,vI a.gc.pos,vI a.gc.round,vS c a.gc.ia.length d],sl (some ⟨n,s,none⟩) b B,sl c d a.gc.ia]) (vs:=#[vI U]) (i:=2) mT rfl (by kernel_rfl) rfl rfl R x rfl (fun w G hG=>by cases (show G=[] from hG);exact ⟨rfl,rfl⟩) rfl rfl ?_;intro aC V W aG Z hf;refine LW.u (iD.nc rfl) rfl ?_;refine go ?_;refine LW.st Z 0 fun aH I=>?_;refine go ?_;replace h:=oi h;subst h;rw [show a.ag.length=B.length from (iM (oi j))] at I;exact And.intro trivial ⟨_,jB.zero , (some ⟨n,s,none⟩),b,V,W,rfl,I.pk [0,1,2]⟩
 refine go ?_;replace h:=oi h;subst h;rw [show a.ag.length=B.length from (iM (oi j))] at x;exact And.intro trivial ⟨_,jB.zero , (some ⟨n,s,none⟩),b,c,d,rfl,x.pk [0,1,2]⟩
theorem ml {w0 N a c r} (h:mJ N a c=some r) :
    iq Tryz.prog 182 #[.agg #[vI a.bh,vI a.ib,vI a.ik],.agg #[vI c.bh,vI c.ib,vI c.ik]] w0 (fun v w=>v=.tuple #[.agg #[vI r.1.bh,vI r.1.ib,vI r.1.ik],.bool r.2]∧St w0 [] w []):=by
 unfold mJ at h;refine iq.fn Tryz.func182 fun e=>?_;have p:=St.start w0;refine go ?_;refine LW.bo p fun W Z q=>?_;refine LW.bo q fun X aa s=>?_;refine LW.al s fun Y ab i=>?_;refine gs ?_;obtain ⟨B,y,A⟩:=ob h;refine CW.jn [2,3,4] [0,1,2] [(14,.bool B)] i (h1:=?_) (h2:=?_)
 · have h:=y;refine gb h fun ac z h=>?_;refine LW.c0 (mc z) i fun G j=>?_;refine gB h ?_ ?_ <;> intro _ h
   · refine go ?_;cases oi h;exact j.po [0,1,2]
   refine gb h fun U n h=>?_;refine go ?_;refine LW.c0 (mc n) j fun H t=>?_;refine go ?_;cases oi h;exact t.po [0,1,2]
 intro e I k;have h:=A;refine gc h ?_ ?_ <;> intro _ h
 · refine go ?_;refine LW.st k 0 fun J l=>?_;refine go ?_;cases h;exact Rc (ic.b l 0 rfl kt rfl rfl) tt ⟨rfl,l.pk []⟩
 refine go ?_;refine LW.u (iD.build (vs:=[(0,vI (IntKind.i64.wrap (a.bh+c.bh))),(1,vI (IntKind.i64.wrap (a.ib+c.ib))),(2,vI (IntKind.i64.wrap (a.ik+c.ik)))]) (cs:=#[vI (IntKind.i64.wrap (a.bh+c.bh)),vI (IntKind.i64.wrap (a.ib+c.ib)),vI (IntKind.i64.wrap (a.ik+c.ik))]) rfl (by kernel_rfl)) rfl ?_;refine LW.al k fun C K x=>?_;refine LW.st x 0 fun L m=>?_;refine gb h fun V o h=>?_;refine LW.c0 (mc o) m fun M d=>?_;refine go ?_;refine CW.fl [2,4,6,34] fun e=>?_;refine gc h ?_ ?_ <;> intro _ h
 · refine go ?_;refine LW.st d 1 fun O f=>?_;refine go ?_;cases h;exact Rc (ic.b f 1 rfl kt rfl rfl) tt ⟨rfl,f.pk []⟩
 refine go ?_;refine LW.st d 1 fun R g=>?_;refine go ?_;cases h;exact Rc (ic.b g 1 rfl kt rfl rfl) tt ⟨rfl,g.pk []⟩
theorem oh {w0 N aq r} (h:lS N aq=some r) {s C t} (M:C=aq.length) (c:rb w0 s t aq) :
    iq Tryz.prog 218 #[vS s C t] w0 (fun v w=>v=.bool r∧St w0 [] w []):=by
 subst M;unfold lS at h;refine iq.fn Tryz.func218 fun e=>?_;have f:=St.start w0;refine gs ?_;refine CW.region ?_;refine gs ?_;obtain ⟨a6,aw,h2⟩:=ob h;refine CW.jn [0] [] [(29,.bool a6)] f (h1:=?_) (h2:=?_)
 · have h:=aw;refine gB h ?_ ?_ <;> intro _ h
   · refine go ?_;cases oi h;exact f.po []
   refine gb h fun b3 ax h=>?_;obtain ⟨b1,b2,bL,rfl,d,bM,bN,⟨bf,bw,bg,bz,bi,bA,rfl,aY,aZ,a0⟩,n⟩:=c.idx ax;refine go ?_;refine LW.l (iC.iP w0 jc rfl (n 1 _ rfl)) (f.same _ d.1 d.2) rfl ?_;refine gB h ?_ ?_ <;> intro _ h
   · refine go ?_;cases oi h;exact f.po []
   refine go ?_;refine LW.l (iC.iP w0 jc rfl (n 2 _ rfl)) (f.same _ d.1 d.2) rfl ?_;refine gB h ?_ ?_ <;> intro _ h
   · refine go ?_;cases oi h;exact f.po []
   refine go ?_;refine LW.l (iC.iP w0 jc rfl (n 4 _ rfl)) (f.same _ d.1 d.2) rfl ?_;refine go ?_;cases oi h;exact f.po []
 intro e bR V;have h:=h2;refine gc h ?_ ?_ <;> intro _ h
 · refine go ?_;cases h;exact fi V
 refine go ?_;obtain ⟨H,R,z⟩:=ob h;refine CW.mono (CW.lx [0] [] [] 0 (fun Y=>[(3,vI Y)]) (RT Tryz.prog Tryz.f218.results (fun u=>.bool u) w0 []) V R (hb:=?_)) ?_
 · intro Y e bS o i h;refine gc h ?_ ?_ <;> intro _ h
   · refine gs ?_;refine CW.block ?_;refine gs ?_;obtain ⟨ay,ac,ar⟩:=ob h;refine CW.jn [0,3] [] [(73,.bool ay)] i (h1:=?_) (h2:=?_)
     · have h:=ac;refine gb h fun bW aj h=>?_;obtain ⟨bs,bO,aN,rfl,a,aQ,aU,⟨bj,bB,bk,bC,bl,bD,rfl,ae,af,ah⟩,m⟩:=c.idx aj;refine go ?_;refine LW.l (iC.jH w0 kW rfl rfl (fun j u hu=>m j u hu)) (i.same _ a.1 a.2) rfl ?_;have ⟨bX,ak,h⟩:=ob h;refine LW.c0 (AG ak rfl (i.rB ae) rfl (i.rB af) rfl (i.rB ah)) i fun bT b=>?_;refine gB h ?_ ?_ <;> intro _ h
       · refine go ?_;cases oi h;exact b.po []
       refine go ?_;refine LW.l (iC.iP w0 jc rfl (m 1 _ rfl)) (b.same _ a.1 a.2) rfl ?_;refine gB h ?_ ?_ <;> intro _ h
       · refine go ?_;refine bH h ?_ ?_ <;> intro _ h
         · refine go ?_;refine LW.l (iC.iP w0 jc rfl (m 2 _ rfl)) (b.same _ a.1 a.2) rfl ?_;refine gB h ?_ ?_ <;> intro _ h
           · refine go ?_;refine LW.l (iC.iP w0 jc rfl (m 2 _ rfl)) (b.same _ a.1 a.2) rfl ?_;have ⟨bY,am,h⟩:=ob h;obtain ⟨bt,bP,aO,hae,A,aR,aV,ab,ad⟩:=c.idx am;cases hae;obtain ⟨bm,bE,bn,bF,bo,bG,rfl,a1,a2,a3⟩:=ab;refine go ?_;refine LW.l (iC.iP w0 jc rfl (ad 1 _ rfl)) (b.same _ A.1 A.2) rfl ?_;refine go ?_;cases oi h;exact b.po []
           refine go ?_;cases oi h;exact b.po []
         refine go ?_;cases oi h;exact b.po []
       refine go ?_;cases oi h;exact b.po []
     intro e bU W;have h:=ar;refine gc h ?_ ?_ <;> intro _ h
     · refine go ?_;cases oi h;exact ⟨trivial,rfl,_,rfl,rx ⟨rfl,W.pk []⟩⟩
     refine go ?_;obtain ⟨G,O,y⟩:=ob h;refine CW.mono (CW.lx [0,3] [] [0,3] 2 (fun Z=>[(4,vI Z)]) (RT Tryz.prog Tryz.f218.results (fun u=>.bool u) w0 []) W O (hb:=?_)) ?_
     · intro Z e bV o g h;refine gb h fun bZ an h=>?_;obtain ⟨bu,bQ,aP,rfl,k,aS,aW,⟨bp,bI,bq,bJ,br,bK,rfl,ai,a4,a5⟩,B⟩:=c.idx an;refine go ?_;refine LW.l (iC.iP w0 nE rfl (B 10 _ rfl)) (g.same _ k.1 k.2) rfl ?_;refine go ?_;refine CW.fl [0,3,4,81] fun e=>?_;refine gc h ?_ ?_ <;> intro _ h
       · refine go ?_;refine LW.l (iC.iP w0 nE rfl (B 10 _ rfl)) (g.same _ k.1 k.2) rfl ?_;refine gb h fun b0 ao h=>?_;obtain ⟨bv,a7,az,rfl,p,aT,aX,rfl,K⟩:=ai.idx ao;refine go ?_;refine LW.l (iC.iP w0 jc rfl (K 0 _ rfl)) (g.same _ p.1 p.2) rfl ?_;refine gs ?_;obtain ⟨ap,J,aa⟩:=ob h;refine CW.jn [0,3,4] [] [(101,.bool ap)] g (h1:=?_) (h2:=?_)
         · have h:=J;refine gB h ?_ ?_ <;> intro _ h
           · refine gb h fun be U h=>?_;obtain ⟨aJ,a8,aA,hae,q,aB,aC,I,L⟩:=c.idx U;cases hae;obtain ⟨aG,aK,aH,aL,aI,aM,rfl,aD,aE,aF⟩:=I;refine go ?_;refine LW.l (iC.iP w0 jc rfl (L 1 _ rfl)) (g.same _ q.1 q.2) rfl ?_;refine go ?_;cases oi h;exact g.po []
           refine go ?_;cases oi h;exact g.po []
         intro e bb X;have h:=aa;refine gc h ?_ ?_ <;> intro _ h
         · refine go ?_;cases oi h;exact ⟨trivial,rfl,_,rfl,rx ⟨rfl,X.pk []⟩⟩
         refine go ?_;cases oi h;exact ⟨rfl,(X.po [])⟩
       refine go ?_;cases oi h;exact ⟨trivial,rfl,(g.po [])⟩
     intro x e bc hM;rcases G with G | a9
     · obtain ⟨rfl,hM⟩:=hM;obtain ⟨e,rfl,au⟩:=eo hM;have h:=y;refine go ?_;cases oi h;exact ⟨rfl,(au.po [])⟩
     obtain ⟨rfl,u,rfl,hM⟩:=hM;cases y;exact ⟨trivial,rfl,_,rfl,hM⟩
   refine go ?_;cases oi h;exact ⟨trivial,rfl,⟨trivial,i.pk []⟩⟩
 intro x e bd hM;rcases H with H | ba
 · obtain ⟨rfl,hM⟩:=hM;obtain ⟨e,rfl,av⟩:=eo hM;rw [show e=iQ e [] from rfl];have h:=z;refine go ?_;cases h;exact fi av
 obtain ⟨rfl,u,rfl,hM⟩:=hM;cases z;exact And.intro trivial hM
theorem yd {w0 N a r} (h:pD N a=some r) {y V H} (ab:V=a.label.levels.length) (ai:rb w0 y H a.label.levels) {z W I} (ac:W=a.own.length) (aj:rb w0 z I a.own) {A X J} (ad:X=a.tree.length) (ak:rb w0 A J a.tree) {B Y K} (ae:Y=a.heap.ag.length) (am:rb w0 B K a.heap.ag) {C Z L} (af:Z=a.heap.gc.ia.length) (an:rb w0 C L a.heap.gc.ia) {G aa M} (ah:aa=a.ij.length) (ao:rb w0 G M a.ij) :
    iq Tryz.prog 147 #[.agg #[vS y V H,vS z W I,vS A X J,vS B Y K,vI a.heap.gc.phase,vI a.heap.gc.pos,vI a.heap.gc.round,vS C Z L,vS G aa M,vI a.next,vI a.want,vI a.gE.bh,vI a.gE.ib,vI a.gE.ik,vI a.iH,vI a.lost]] w0 (fun v w=>∃ d o, ∃ f p, ∃ g q, ∃ j s, ∃ k t, ∃ n x,v=.agg #[vS d r.label.levels.length o,vS f r.own.length p,vS g r.tree.length q,vS j r.heap.ag.length s,vI r.heap.gc.phase,vI r.heap.gc.pos,vI r.heap.gc.round,vS k r.heap.gc.ia.length t,vS n r.ij.length x,vI r.next,vI r.want,vI r.gE.bh,vI r.gE.ib,vI r.gE.ik,vI r.iH,vI r.lost]∧St w0 [] w [sl d o r.label.levels,sl f p r.own,sl g q r.tree,sl j s r.heap.ag,sl k t r.heap.gc.ia,sl n x r.ij]):=by
 subst ab ac ad ae af ah;unfold pD at h;refine iq.fn Tryz.func147 fun e=>?_;have aO:=St.start w0;refine go ?_;refine LW.bo aO fun bm bp aP=>?_;refine LW.al aP fun bn bq aQ=>?_;refine go ?_;refine LW.jV (α:=Int) (vs:=[]) (cs:=#[]) (l:=([]:List Int)) rfl (by kernel_rfl) rfl rfl rfl (fun w=>rfl) aQ rfl ?_;intro bk bl br ap hf;refine gb h fun aV aU h=>?_;refine LW.kA (l:=([]:List Int)) (m:=a.label.levels) mT rfl rfl (ap.rB ai) aU ap (i:=0) rfl rfl ?_;intro au O a0 aR hf;refine LW.u (iD.build (vs:=[(0,vS au aV.length O)]) (cs:=#[vS au aV.length O]) rfl (by kernel_rfl)) rfl ?_;refine go ?_;refine LW.st aR 2 fun a1 aS=>?_;refine go ?_;refine LW.jV (α:=Int) (vs:=[]) (cs:=#[]) (l:=([]:List Int)) rfl (by kernel_rfl) rfl rfl rfl (fun w=>rfl) aS rfl ?_;intro aW aY a2 aq hf;refine gb h fun bf aA h=>?_;refine LW.kA (l:=([]:List Int)) (m:=a.own) mT rfl rfl (aq.rB aj) aA aq (i:=0) rfl rfl ?_;intro aE aJ a3 aT hf;refine go ?_;refine LW.st aT 3 fun a4 ar=>?_;refine gb h fun bg aB h=>?_;refine LW.cl (nO aB rfl (ar.rB ak)) ?_;rintro _ a6 ⟨aF,aK,rfl,hs⟩;have av:=ar.add hs;refine go ?_;refine LW.st av 4 fun a7 c=>?_;refine gb h fun bi aC h=>?_;refine LW.cl (tV aC rfl (c.rB am) rfl (c.rB an)) ?_;rintro _ a8 ⟨aG,aL,aH,aM,rfl,hs⟩;have aw:=c.add hs;refine go ?_;refine LW.st aw 6 fun ba ax=>?_;refine go ?_;refine LW.jV (α:=jw) (vs:=[]) (cs:=#[]) (l:=([]:List jw)) rfl (by kernel_rfl) rfl rfl rfl (fun w=>rfl) ax rfl ?_;intro aX aZ bb R hf;refine gb h fun bj aD h=>?_;refine LW.kA (l:=([]:List jw)) (m:=a.ij) As rfl rfl (R.rB ao) aD R (i:=0) rfl rfl ?_;intro aI aN bc ay hf;refine go ?_;refine LW.st ay 7 fun bd az=>?_;refine go ?_;refine LW.st az 6 fun be U=>?_;refine go ?_;cases h;exact And.intro trivial ⟨_,jB.one (ic.b U 6 rfl jz rfl rfl),au,O,aE,aJ,aF,aK,aG,aL,aH,aM,aI,aN,rfl,U.pk [5,4,3,1,2,0]⟩
theorem uD {w0 N aG r} (h:nN N aG=some r) {z M A} (W:M=aG.length) (a:rb w0 z A aG) :
    iq Tryz.prog 127 #[vS z M A] w0 (fun v w=>v=.bool r∧St w0 [] w []):=by
 subst W;unfold nN at h;refine iq.fn Tryz.func127 fun e=>?_;have i:=St.start w0;refine gs ?_;refine CW.region ?_;refine gs ?_;obtain ⟨bd,aO,h2⟩:=ob h;refine CW.jn [0] [] [(23,.bool bd)] i (h1:=?_) (h2:=?_)
 · have h:=aO;refine gB h ?_ ?_ <;> intro _ h
   · refine go ?_;cases oi h;exact i.po []
   refine gb h fun b1 aP h=>?_;obtain ⟨bZ,b0,bv,rfl,p,bw,bz,rfl,L⟩:=a.idx aP;refine go ?_;refine LW.l (iC.iP w0 qI rfl (L 0 _ rfl)) (i.same _ p.1 p.2) rfl ?_;refine gB h ?_ ?_ <;> intro _ h
   · refine go ?_;cases oi h;exact i.po []
   refine go ?_;refine LW.l (iC.iP w0 jc rfl (L 1 _ rfl)) (i.same _ p.1 p.2) rfl ?_;refine go ?_;cases oi h;exact i.po []
 intro e bG ac;have h:=h2;refine gc h ?_ ?_ <;> intro _ h
 · refine go ?_;cases h;exact fi ac
 refine go ?_;obtain ⟨ae,av,ab⟩:=ob h;refine CW.mono (CW.lx [0] [] [0] 0 (fun af=>[(3,vI af)]) (RT Tryz.prog Tryz.f127.results (fun u=>.bool u) w0 []) ac av (hb:=?_)) ?_
 · intro af e bI o d h;refine gc h ?_ ?_ <;> intro _ h
   · refine gs ?_;refine CW.block ?_;refine gs ?_;obtain ⟨aQ,an,aH⟩:=ob h;refine CW.jn [0,3] [] [(52,.bool aQ)] d (h1:=?_) (h2:=?_)
     · have h:=an;refine gb h fun aT ax h=>?_;obtain ⟨bq,bA,aY,rfl,b,a3,a8,rfl,q⟩:=a.idx ax;refine go ?_;refine LW.l (iC.iP w0 qI rfl (q 0 _ rfl)) (d.same _ b.1 b.2) rfl ?_;refine gB h ?_ ?_ <;> intro _ h
       · refine go ?_;refine LW.l (iC.jH w0 xY rfl rfl (fun j u hu=>q j u hu)) (d.same _ b.1 b.2) rfl ?_;refine go ?_;refine LW.u (iD.build (vs:=[]) (cs:=#[.bool false,vI 0,vI 0,vI 0,vI 0]) rfl (by kernel_rfl)) rfl ?_;refine go ?_;refine LW.u (iD.CN E9 rfl rfl (fun w=>FK aT (ir.mk false 0 (ig.mk 0 0 0)) w)) rfl ?_;refine gB h ?_ ?_ <;> intro _ h
         · refine go ?_;cases oi h;exact d.po []
         refine go ?_;refine LW.l (iC.jH w0 kt rfl rfl (fun j u hu=>m5 (m:=3) q 2 hu)) (d.same _ b.1 b.2) rfl ?_;have ⟨bS,ay,h⟩:=ob h;refine go ?_;refine LW.c0 (mc ay) d fun bJ aL=>?_;refine go ?_;cases oi h;exact aL.po []
       refine go ?_;refine LW.l (iC.jH w0 kt rfl rfl (fun j u hu=>m5 (m:=3) q 2 hu)) (d.same _ b.1 b.2) rfl ?_;have ⟨bT,az,h⟩:=ob h;refine go ?_;refine LW.c0 (mc az) d fun bK aM=>?_;refine go ?_;cases oi h;exact aM.po []
     intro e bL g;have h:=aH;refine gc h ?_ ?_ <;> intro _ h
     · refine go ?_;cases oi h;exact ⟨trivial,rfl,_,rfl,rx ⟨rfl,g.pk []⟩⟩
     refine gs ?_;obtain ⟨aR,ao,aI⟩:=ob h;refine CW.jn [0,3] [] [(91,.bool aR)] g (h1:=?_) (h2:=?_)
     · have h:=ao;refine gB h ?_ ?_ <;> intro _ h
       · refine gb h fun bU aA h=>?_;obtain ⟨br,bB,aZ,rfl,c,a4,a9,rfl,s⟩:=a.idx aA;refine go ?_;refine LW.l (iC.iP w0 qI rfl (s 0 _ rfl)) (g.same _ c.1 c.2) rfl ?_;refine gB h ?_ ?_ <;> intro _ h
         · refine go ?_;refine LW.l (iC.iP w0 jc rfl (s 1 _ rfl)) (g.same _ c.1 c.2) rfl ?_;have ⟨bV,aB,h⟩:=ob h;refine go ?_;refine LW.c0 (nW aB) g fun bM k=>?_;refine go ?_;refine bH h ?_ ?_ <;> intro _ h
           · refine go ?_;cases oi h;exact k.po []
           refine go ?_;refine LW.l (iC.iP w0 jc rfl (s 1 _ rfl)) (k.same _ c.1 c.2) rfl ?_;refine gB h ?_ ?_ <;> intro _ h
           · refine go ?_;cases oi h;exact k.po []
           refine go ?_;refine LW.l (iC.iP w0 jc rfl (s 1 _ rfl)) (k.same _ c.1 c.2) rfl ?_;have ⟨bW,aC,h⟩:=ob h;obtain ⟨bs,bC,a0,hae,I,a5,ba,am,aq⟩:=a.idx aC;cases hae;obtain rfl:=am;refine go ?_;refine LW.l (iC.iP w0 qI rfl (aq 0 _ rfl)) (k.same _ I.1 I.2) rfl ?_;refine go ?_;cases oi h;exact k.po []
         refine go ?_;cases oi h;exact g.po []
       refine go ?_;cases oi h;exact g.po []
     intro e bN ad;have h:=aI;refine gc h ?_ ?_ <;> intro _ h
     · refine go ?_;cases oi h;exact ⟨trivial,rfl,_,rfl,rx ⟨rfl,ad.pk []⟩⟩
     refine go ?_;cases oi h;exact ⟨rfl,(ad.po [])⟩
   refine go ?_;cases oi h;exact ⟨trivial,rfl,(d.po [])⟩
 intro x e bO hM;rcases ae with ae | bg
 · obtain ⟨rfl,hM⟩:=hM;obtain ⟨e,rfl,aN⟩:=eo hM;have h:=ab;refine go ?_;obtain ⟨O,X,B⟩:=ob h;refine CW.mono (CW.lx [0] [] [0] 2 (fun ah=>[(4,vI ah)]) (RT Tryz.prog Tryz.f127.results (fun u=>.bool u) w0 []) aN X (hb:=?_)) ?_
   · intro ah e bP o C h;refine gc h ?_ ?_ <;> intro _ h
     · refine go ?_;obtain ⟨bF,aw,aK⟩:=ob h;refine CW.mono (CW.lb [0,4] [] [0,4,5] 4 (fun R=>[(5,vI R.1),(6,vI R.2)]) C aw (hb:=?_)) ?_
       · intro R e bQ o f h;refine gs ?_;obtain ⟨aS,ap,aJ⟩:=ob h;refine CW.jn [0,4,5,6] [] [(111,.bool aS)] f (h1:=?_) (h2:=?_)
         · have h:=ap;refine gB h ?_ ?_ <;> intro _ h
           · refine gb h fun bX aD h=>?_;obtain ⟨bt,bD,a1,rfl,J,a6,bb,rfl,ar⟩:=a.idx aD;refine go ?_;refine LW.l (iC.iP w0 qI rfl (ar 0 _ rfl)) (f.same _ J.1 J.2) rfl ?_;refine gB h ?_ ?_ <;> intro _ h
             · refine go ?_;cases oi h;exact f.po []
             refine go ?_;cases oi h;exact f.po []
           refine go ?_;cases oi h;exact f.po []
         intro e bR t;have h:=aJ;refine gc h ?_ ?_ <;> intro _ h
         · refine gb h fun bY aE h=>?_;obtain ⟨bu,bE,a2,rfl,K,a7,bc,rfl,au⟩:=a.idx aE;refine go ?_;refine LW.l (iC.iP w0 jc rfl (au 1 _ rfl)) (t.same _ K.1 K.2) rfl ?_;refine go ?_;cases oi h;exact ⟨rfl,(t.po [])⟩
         refine go ?_;cases oi h;exact ⟨trivial,rfl,(t.po [])⟩
       intro x e bi hM;obtain ⟨rfl,hM⟩:=hM;obtain ⟨e,rfl,n⟩:=eo hM;have h:=aK;refine gs ?_;obtain ⟨aF,U,ai⟩:=ob h;refine CW.jn [0,4] [] [(127,.bool aF)] n (h1:=?_) (h2:=?_)
       · have h:=U;refine gb h fun bn Y h=>?_;obtain ⟨aX,be,aU,rfl,y,aV,aW,rfl,V⟩:=a.idx Y;refine go ?_;refine LW.l (iC.iP w0 qI rfl (V 0 _ rfl)) (n.same _ y.1 y.2) rfl ?_;refine gB h ?_ ?_ <;> intro _ h
         · refine go ?_;cases oi h;exact n.po []
         refine go ?_;cases oi h;exact n.po []
       intro e bj G;have h:=ai;refine gc h ?_ ?_ <;> intro _ h
       · refine go ?_;cases oi h;exact ⟨trivial,rfl,_,rfl,rx ⟨rfl,G.pk []⟩⟩
       refine go ?_;cases oi h;exact ⟨rfl,(G.po [])⟩
     refine go ?_;cases oi h;exact ⟨trivial,rfl,(C.po [])⟩
   intro x e bk hM;rcases O with O | bf
   · obtain ⟨rfl,hM⟩:=hM;obtain ⟨e,rfl,H⟩:=eo hM;have h:=B;refine gb h fun bo Z h=>?_;refine LW.c0 (vv Z rfl (H.rB a)) H fun bl aj=>?_;have ⟨bp,aa,h⟩:=ob h;refine LW.c0 (mc aa) aj fun bm ak=>?_;refine go ?_;cases h;exact fi ak
   obtain ⟨rfl,u,rfl,hM⟩:=hM;cases B;exact And.intro trivial hM
 obtain ⟨rfl,u,rfl,hM⟩:=hM;cases ab;exact And.intro trivial hM
theorem HX {w0 N a r} (h:vj N a=some r) {d C n} (L:C=a.label.levels.length) (ak:rb w0 d n a.label.levels) {f G p} (M:G=a.own.length) (am:rb w0 f p a.own) {g H q} (O:H=a.tree.length) (an:rb w0 g q a.tree) {i I s} (R:I=a.heap.ag.length) (W:rb w0 i s a.heap.ag) {k J t} (U:J=a.heap.gc.ia.length) (ao:rb w0 k t a.heap.gc.ia) {m K y} (V:K=a.ij.length) (ap:rb w0 m y a.ij) :
    iq Tryz.prog 220 #[.agg #[vS d C n,vS f G p,vS g H q,vS i I s,vI a.heap.gc.phase,vI a.heap.gc.pos,vI a.heap.gc.round,vS k J t,vS m K y,vI a.next,vI a.want,vI a.gE.bh,vI a.gE.ib,vI a.gE.ik,vI a.iH,vI a.lost]] w0 (fun v w=>v=vI r∧St w0 [] w []):=by
 subst L M O R U V;unfold vj at h;refine iq.fn Tryz.func220 fun e=>?_;have af:=St.start w0;refine go ?_;refine LW.bo af fun aK aL ah=>?_;refine go ?_;obtain ⟨aF,X,ae⟩:=ob h;refine CW.mono (CW.lb [1] [0] [3] 0 (fun ad=>[(3,vI ad.1),(4,vI ad.2)]) ah X (hb:=?_)) ?_
 · intro ad e aM o z h;refine gs ?_;obtain ⟨aw,aj,ar⟩:=ob h;refine CW.jn [1,3,4] [0] [(14,.bool aw)] z (h1:=?_) (h2:=?_)
   · have h:=aj;refine gB h ?_ ?_ <;> intro _ h
     · refine go ?_;cases oi h;exact z.po [0]
     refine go ?_;cases oi h;exact z.po [0]
   intro e aN b;have h:=ar;refine gc h ?_ ?_ <;> intro _ h
   · refine gb h fun aI ab h=>?_;obtain ⟨aA,aE,aq,rfl,c,au,av,⟨ax,aB,ay,aC,az,aD,rfl,Y,Z,aa⟩,B⟩:=W.idx ab;refine go ?_;refine LW.l (iC.jH w0 kW rfl rfl (fun j u hu=>B j u hu)) (b.same _ c.1 c.2) rfl ?_;have ⟨aJ,ac,h⟩:=ob h;refine LW.c0 (AG ac rfl (b.rB Y) rfl (b.rB Z) rfl (b.rB aa)) b fun aG A=>?_;refine gc h ?_ ?_ <;> intro _ h
     · refine go ?_;refine LW.l (iC.iP w0 jc rfl (B 5 _ rfl)) (A.same _ c.1 c.2) rfl ?_;refine go ?_;cases oi h;exact ⟨rfl,(A.po [0])⟩
     refine go ?_;cases oi h;exact ⟨rfl,(A.po [0])⟩
   refine go ?_;cases oi h;exact ⟨trivial,rfl,(b.po [0])⟩
 intro x e aH hM;obtain ⟨rfl,hM⟩:=hM;obtain ⟨e,rfl,ai⟩:=eo hM;have h:=ae;refine go ?_;cases h;exact fi ai
theorem DH {w0 N b c r} (h:rX N b c=some r) :
    iq Tryz.prog 326 #[.agg #[vI b.bh,vI b.ib,vI b.ik],.agg #[vI c.bh,vI c.ib,vI c.ik]] w0 (fun v w=>v=.bool r∧St w0 [] w []):=by
 unfold rX at h;refine iq.fn Tryz.func326 fun e=>?_;have f:=St.start w0;refine go ?_;refine LW.bo f fun l n g=>?_;refine LW.bo g fun m o i=>?_;refine gb h fun s j h=>?_;refine LW.c0 (mc j) i fun p d=>?_;refine gB h ?_ ?_ <;> intro _ h
 · refine gb h fun t k h=>?_;refine go ?_;refine LW.c0 (mc k) d fun q a=>?_;refine gB h ?_ ?_ <;> intro _ h
   · refine gB h ?_ ?_ <;> intro _ h
     · refine go ?_;refine bH h ?_ ?_ <;> intro _ h
       · refine go ?_;cases h;exact fi a
       refine go ?_;cases h;exact fi a
     refine go ?_;cases h;exact fi a
   refine go ?_;cases h;exact fi a
 refine go ?_;cases h;exact fi d
theorem Dd {w0 N s B r} (h:rF N s B=some r) {c i d} (j:i=s.length) (b:rb w0 c d s) :
    iq Tryz.prog 287 #[vS c i d,vI B] w0 (fun v w=>v=.bool r∧St w0 [] w []):=by
 subst j;unfold rF at h;refine iq.fn Tryz.func287 fun e=>?_;have t:=St.start w0;refine go ?_;obtain ⟨m,p,k⟩:=ob h;refine CW.mono (CW.lx [0] [] [] 0 (fun q=>[(1,vI q.1),(5,vI q.2)]) (RT Tryz.prog Tryz.f287.results (fun u=>.bool u) w0 []) t p (hb:=?_)) ?_
 · intro q e M o a h;refine gc h ?_ ?_ <;> intro _ h
   · refine gc h ?_ ?_ <;> intro _ h
     · refine go ?_;cases oi h;exact ⟨trivial,rfl,_,rfl,rx ⟨rfl,a.pk []⟩⟩
     refine gb h fun R z h=>?_;refine LW.c0 (tm z rfl (a.rB b)) a fun O f=>?_;refine gc h ?_ ?_ <;> intro _ h
     · refine go ?_;cases oi h;exact ⟨trivial,rfl,_,rfl,rx ⟨rfl,f.pk []⟩⟩
     refine gb h fun U A h=>?_;obtain ⟨H,J,C,rfl,g,I,G,rfl,n⟩:=b.idx A;refine go ?_;refine LW.l (iC.iP w0 jc rfl (n 1 _ rfl)) (f.same _ g.1 g.2) rfl ?_;refine go ?_;cases oi h;exact ⟨rfl,(f.po [])⟩
   refine go ?_;cases oi h;exact ⟨trivial,rfl,⟨trivial,a.pk []⟩⟩
 intro x e L hM;rcases m with m | K
 · obtain ⟨rfl,hM⟩:=hM;obtain ⟨e,rfl,y⟩:=eo hM;rw [show e=iQ e [] from rfl];have h:=k;refine go ?_;cases h;exact fi y
 obtain ⟨rfl,u,rfl,hM⟩:=hM;cases k;exact And.intro trivial hM
end Go.Kx
