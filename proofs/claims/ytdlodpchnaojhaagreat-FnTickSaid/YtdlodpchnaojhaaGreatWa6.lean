/- Each call returns what the plain function says. Printed by drive.py. -/
import Derived.Test.YtdlodpchnaojhaaGreatFa
import Derived.Test.YtdlodpchnaojhaaGreatPu
import Derived.Test.YtdlodpchnaojhaaGreatWa5
namespace Go.Kx
open Go Go.RowKit Go.Proofs
set_option maxRecDepth 10000
set_option maxHeartbeats 8000000
set_option linter.unusedVariables false
set_option linter.unusedSimpArgs false
theorem DC {w0 N a r} (h:rQ N a=some r) {O Y V} (ah:Y=a.il.length) (K:rb w0 O V a.il) {R Z W} (ai:Z=a.data.length) (g:rb w0 R W a.data) {U aa X} (aj:aa=a.queue.length) (j:rb w0 U X a.queue) :
    iq Tryz.prog 322 #[.agg #[vI a.gen,vI a.kind,vI a.box,vI a.res,vI a.iU,vI a.bh,vI a.wait,vI a.iW,vI a.iR,.bool a.mark,vS O Y V,vS R Z W,vS U aa X]] w0 (fun v w=>∃ z C, ∃ A G, ∃ B H,v=.agg #[vI r.gen,vI r.kind,vI r.box,vI r.res,vI r.iU,vI r.bh,vI r.wait,vI r.iW,vI r.iR,.bool r.mark,vS z r.il.length C,vS A r.data.length G,vS B r.queue.length H]∧St w0 [] w [sl z C r.il,sl A G r.data,sl B H r.queue]):=by
 subst ah ai aj;unfold rQ at h;refine iq.fn Tryz.func322 fun e=>?_;have aU:=St.start w0;refine go ?_;refine LW.bo aU fun aS bB aV=>?_;refine LW.al aV fun aT bC aW=>?_;refine gs ?_;obtain ⟨ab,aY,aZ⟩:=ob h;refine CW.cut (fun e wb=>∃ (p:Ad) (t:Nat) (q:Ad) (x:Nat) (s:Ad) (y:Nat),En e [(1,.pointer (some ⟨aS,0,none⟩)),(2,.pointer (some ⟨aT,0,none⟩))]∧St w0 [] wb [bx aT 160 [vI 0,vI 0,vI 0,vI 0,vI 0,vI 0,vI 0,vI 0,vI 0,.bool false,vS none 0 0,vS none 0 0,vS none 0 0],bx aS 160 [vI a.gen,vI a.kind,vI a.box,vI a.res,vI a.iU,vI a.bh,vI a.wait,vI a.iW,vI a.iR,.bool a.mark,vS p ab.1.length t,vS q ab.2.1.length x,vS s ab.2.2.length y],sl p t ab.1,sl q x ab.2.1,sl s y ab.2.2]) ?_ ?_
 · have h:=aY;refine CW.draw (by kernel_rfl) ?_;have ad:=aW.drew;refine gb h fun bD ao h=>?_;refine AW.all (rs:=[2,6]) (by kernel_rfl) (by simp) ⟨?_,?_,trivial⟩
   · refine ⟨_,rfl,?_⟩;refine LW.cl (mL ao rfl (ad.rB K)) ?_;rintro _ a6 ⟨am,an,rfl,hs⟩;have I:=ad.add hs;refine jN (.c (I.ce 2) (.c (I.ce 2) (jW jZ))) ?_;refine AW.u (i:=10) rfl (by kernel_rfl) rfl rfl (iD.fa Ci rfl) ?_;have ⟨bu,ak,h⟩:=ob h;refine AW.all (rs:=[5,6]) (by kernel_rfl) (by simp) ⟨?_,?_,trivial⟩
     · refine ⟨_,rfl,?_⟩;refine LW.cl (mL ak rfl (I.rB g)) ?_;rintro _ a7 ⟨aE,aL,rfl,hs⟩;have ae:=I.add hs;refine jN (.c (ae.ce 3) (jW (.c (ae.ce 3) jZ))) ?_;refine jO 6 ?_;refine LW.jV (α:=jI) (vs:=[]) (cs:=#[]) (l:=([]:List jI)) rfl (by kernel_rfl) rfl rfl rfl (fun w=>rfl) ae rfl ?_;intro a0 a3 a8 J hf;refine jN (.c (J.ce 4) (.c (J.ce 4) (.c (J.ce 4) jZ))) ?_;have ⟨bv,aA,h⟩:=ob h;refine jO 9 ?_;refine LW.kA (l:=([]:List jI)) (m:=a.queue) vn rfl rfl (J.rB j) aA J (i:=0) rfl rfl ?_;intro aF aM a9 af hf;refine jN (jW (.c (af.ce 4) (.c (af.ce 4) jZ))) ?_;refine jO 11 ?_;refine LW.st af 4 fun ba aX=>?_;refine jN (jW (jW (jW jZ))) ?_;refine go ?_;refine jO 13 ?_;refine LW.st aX 4 fun bb ap=>?_;refine jN (jW (jW (jW jZ))) ?_;refine go ?_;refine jO 15 ?_;refine LW.st ap 4 fun bc aq=>?_;refine jN (jW (jW (jW jZ))) ?_;refine go ?_;cases oi h;exact ⟨am,an,aE,aL,aF,aM,aq.po [3,4,2,1,0]⟩
     refine ⟨_,rfl,?_⟩;refine LW.jV (α:=jI) (vs:=[]) (cs:=#[]) (l:=([]:List jI)) rfl (by kernel_rfl) rfl rfl rfl (fun w=>rfl) I rfl ?_;intro a1 a4 bd d hf;refine jN (.c (d.ce 3) (.c (d.ce 3) (.c (d.ce 3) jZ))) ?_;refine jO 5 ?_;refine LW.cl (mL ak rfl (d.rB g)) ?_;rintro _ be ⟨aG,aN,rfl,hs⟩;have k:=d.add hs;refine jN (.c (k.ce 4) (jW (.c (k.ce 4) jZ))) ?_;have ⟨bw,aB,h⟩:=ob h;refine jO 9 ?_;refine LW.kA (l:=([]:List jI)) (m:=a.queue) vn rfl rfl (k.rB j) aB k (i:=1) rfl rfl ?_;intro aH aO bf L hf;refine jN (jW (.c (L.ce 4) (.c (L.ce 4) jZ))) ?_;refine jO 11 ?_;refine LW.st L 4 fun bg ar=>?_;refine jN (jW (jW (jW jZ))) ?_;refine go ?_;refine jO 13 ?_;refine LW.st ar 4 fun bi au=>?_;refine jN (jW (jW (jW jZ))) ?_;refine go ?_;refine jO 15 ?_;refine LW.st au 4 fun bj av=>?_;refine jN (jW (jW (jW jZ))) ?_;refine go ?_;cases oi h;exact ⟨am,an,aG,aN,aH,aO,av.po [3,4,2,0,1]⟩
   refine ⟨_,rfl,?_⟩;refine LW.jV (α:=jI) (vs:=[]) (cs:=#[]) (l:=([]:List jI)) rfl (by kernel_rfl) rfl rfl rfl (fun w=>rfl) ad rfl ?_;intro a2 a5 bk f hf;refine jN (.c (f.ce 2) (.c (f.ce 2) (.c (f.ce 2) jZ))) ?_;refine jO 2 ?_;refine LW.cl (mL ao rfl (f.rB K)) ?_;rintro _ bl ⟨aI,aP,rfl,hs⟩;have n:=f.add hs;refine jN (.c (n.ce 3) (.c (n.ce 3) (jW jZ))) ?_;refine AW.u (i:=10) rfl (by kernel_rfl) rfl rfl (iD.fa Ci rfl) ?_;have ⟨bz,aC,h⟩:=ob h;refine jO 5 ?_;refine LW.cl (mL aC rfl (n.rB g)) ?_;rintro _ bm ⟨aJ,aQ,rfl,hs⟩;have o:=n.add hs;refine jN (.c (o.ce 4) (jW (.c (o.ce 4) jZ))) ?_;have ⟨bA,aD,h⟩:=ob h;refine jO 9 ?_;refine LW.kA (l:=([]:List jI)) (m:=a.queue) vn rfl rfl (o.rB j) aD o (i:=2) rfl rfl ?_;intro aK aR bn M hf;refine jN (jW (.c (M.ce 4) (.c (M.ce 4) jZ))) ?_;refine jO 11 ?_;refine LW.st M 4 fun bp aw=>?_;refine jN (jW (jW (jW jZ))) ?_;refine go ?_;refine jO 13 ?_;refine LW.st aw 4 fun bq ax=>?_;refine jN (jW (jW (jW jZ))) ?_;refine go ?_;refine jO 15 ?_;refine LW.st ax 4 fun br ay=>?_;refine jN (jW (jW (jW jZ))) ?_;refine go ?_;cases oi h;exact ⟨aI,aP,aJ,aQ,aK,aR,ay.po [3,4,1,0,2]⟩
 rintro e bs ⟨p,t,q,x,s,y,hE,az⟩;obtain ⟨e,rfl⟩:=hE.out;have h:=aZ;refine go ?_;refine LW.st az 0 fun bt ac=>?_;refine go ?_;cases h;exact And.intro trivial ⟨_,jB.one (ic.b ac 0 rfl kW rfl rfl),p,t,q,x,s,y,rfl,ac.pk [2,3,4]⟩
theorem Dn {w0 N b c r} (h:sg N b c=some r) {d x l} (G:x=b.il.length) (M:rb w0 d l b.il) {f y m} (H:y=b.data.length) (O:rb w0 f m b.data) {g z n} (I:z=b.queue.length) (R:rb w0 g n b.queue) {i A o} (J:A=c.il.length) (U:rb w0 i o c.il) {j B p} (K:B=c.data.length) (V:rb w0 j p c.data) {k C q} (L:C=c.queue.length) (W:rb w0 k q c.queue) :
    iq Tryz.prog 324 #[.agg #[vI b.gen,vI b.kind,vI b.box,vI b.res,vI b.iU,vI b.bh,vI b.wait,vI b.iW,vI b.iR,.bool b.mark,vS d x l,vS f y m,vS g z n],.agg #[vI c.gen,vI c.kind,vI c.box,vI c.res,vI c.iU,vI c.bh,vI c.wait,vI c.iW,vI c.iR,.bool c.mark,vS i A o,vS j B p,vS k C q]] w0 (fun v w=>v=.bool r∧St w0 [] w []):=by
 subst G H I J K L;unfold sg at h;refine iq.fn Tryz.func324 fun e=>?_;have aa:=St.start w0;refine go ?_;refine LW.bo aa fun ak an ab=>?_;refine LW.bo ab fun am ao a=>?_;refine gB h ?_ ?_ <;> intro _ h
 · refine gB h ?_ ?_ <;> intro _ h
   · refine go ?_;refine bH h ?_ ?_ <;> intro _ h
     · refine gB h ?_ ?_ <;> intro _ h
       · refine gB h ?_ ?_ <;> intro _ h
         · refine gB h ?_ ?_ <;> intro _ h
           · refine go ?_;refine bH h ?_ ?_ <;> intro _ h
             · refine gB h ?_ ?_ <;> intro _ h
               · refine gB h ?_ ?_ <;> intro _ h
                 · refine go ?_;refine LW.u (iD.beq Tryz.underlying4 rfl rfl) rfl ?_;refine gB h ?_ ?_ <;> intro _ h
                   · refine go ?_;have ⟨ah,X,h⟩:=ob h;refine go ?_;refine LW.c0 (wY X rfl (a.rB M) rfl (a.rB U)) a fun ad s=>?_;refine gB h ?_ ?_ <;> intro _ h
                     · refine gb h fun ai Y h=>?_;refine go ?_;refine LW.c0 (wY Y rfl (s.rB O) rfl (s.rB V)) s fun ae t=>?_;refine gB h ?_ ?_ <;> intro _ h
                       · refine gb h fun aj Z h=>?_;refine go ?_;refine LW.c0 (Bw Z rfl (t.rB R) rfl (t.rB W)) t fun af ac=>?_;refine go ?_;cases h;exact fi ac
                       refine go ?_;cases h;exact fi t
                     refine go ?_;cases h;exact fi s
                   refine go ?_;cases h;exact fi a
                 refine go ?_;cases h;exact fi a
               refine go ?_;cases h;exact fi a
             refine go ?_;cases h;exact fi a
           refine go ?_;cases h;exact fi a
         refine go ?_;cases h;exact fi a
       refine go ?_;cases h;exact fi a
     refine go ?_;cases h;exact fi a
   refine go ?_;cases h;exact fi a
 refine go ?_;cases h;exact fi a
theorem nR {w0 N d r} (h:lW N d=some r) :
    iq Tryz.prog 111 #[vI d] w0 (fun v w=>v=.bool r∧St w0 [] w []):=by
 unfold lW at h;refine iq.fn Tryz.func111 fun e=>?_;have a:=St.start w0;refine gb h fun g c h=>?_;refine LW.c0 (jE c) a fun f b=>?_;refine go ?_;cases h;exact fi b
theorem oI {w0 N d r} (h:lR N d=some r) :
    iq Tryz.prog 207 #[vI d] w0 (fun v w=>v=.bool r∧St w0 [] w []):=by
 unfold lR at h;refine iq.fn Tryz.func207 fun e=>?_;have a:=St.start w0;refine gb h fun g c h=>?_;refine LW.c0 (jE c) a fun f b=>?_;refine go ?_;cases h;exact fi b
theorem Bu {w0 N o r} (h:pj N o=some r) {d g f} (i:g=o.levels.length) (j:rb w0 d f o.levels) :
    iq Tryz.prog 197 #[.agg #[vS d g f]] w0 (fun v w=>∃ a c,v=.agg #[vS a r.levels.length c]∧St w0 [] w [sl a c r.levels]):=by
 subst i;unfold pj at h;refine iq.fn Tryz.func197 fun e=>?_;have p:=St.start w0;refine go ?_;refine LW.bo p fun y A q=>?_;refine LW.al q fun z B k=>?_;refine gb h fun x t h=>?_;refine LW.cl (mL t rfl (k.rB j)) ?_;rintro _ C ⟨m,n,rfl,hs⟩;have s:=k.add hs;refine LW.u (iD.build (vs:=[(0,vS m x.length n)]) (cs:=#[vS m x.length n]) rfl (by kernel_rfl)) rfl ?_;refine LW.st s 1 fun G l=>?_;refine go ?_;cases h;exact And.intro trivial ⟨_,jB.one (ic.b l 1 rfl zd rfl rfl),m,n,rfl,l.pk [0]⟩
theorem wm {w0 N d r} (h:oX N d=some r) :
    iq Tryz.prog 100 #[vI d] w0 (fun v w=>v=.bool r∧St w0 [] w []):=by
 unfold oX at h;refine iq.fn Tryz.func100 fun e=>?_;have a:=St.start w0;refine gb h fun g c h=>?_;refine LW.c0 (jE c) a fun f b=>?_;refine go ?_;cases h;exact fi b
theorem sm {w0 N i l r} (h:lZ N i l=some r) {a c b} (d:c=i.length) (f:rb w0 a b i) :
    iq Tryz.prog 139 #[vS a c b,vI l] w0 (fun v w=>v=.bool r∧St w0 [] w []):=by
 subst d;unfold lZ at h;refine iq.fn Tryz.func139 fun e=>?_;have g:=St.start w0;refine gb h fun n k h=>?_;refine LW.c0 (Bv k rfl (g.rB f)) g fun m j=>?_;refine go ?_;cases h;exact fi j
theorem zJ {w0 N d r} (h:qS N d=some r) :
    iq Tryz.prog 115 #[vI d] w0 (fun v w=>v=.bool r∧St w0 [] w []):=by
 unfold qS at h;refine iq.fn Tryz.func115 fun e=>?_;have a:=St.start w0;refine gb h fun g c h=>?_;refine LW.c0 (jE c) a fun f b=>?_;refine go ?_;cases h;exact fi b
theorem C8 {w0 N f l r} (h:rP N f l=some r) {a c b} (d:c=f.parts.length) (m:rb w0 a b f.parts) :
    iq Tryz.prog 70 #[.agg #[vI f.now,vS a c b],vI l] w0 (fun v w=>v=.bool r∧St w0 [] w []):=by
 subst d;unfold rP at h;refine iq.fn Tryz.func70 fun e=>?_;have g:=St.start w0;refine go ?_;refine LW.bo g fun n o i=>?_;refine gb h fun q k h=>?_;refine LW.c0 (jE k) i fun p j=>?_;refine go ?_;cases h;exact fi j
theorem mc {w0 N a r} (h:kP N a=some r) :
    iq Tryz.prog 60 #[.agg #[vI a.bh,vI a.ib,vI a.ik]] w0 (fun v w=>v=.bool r∧St w0 [] w []):=by
 unfold kP at h;refine iq.fn Tryz.func60 fun e=>?_;have d:=St.start w0;refine go ?_;refine LW.bo d fun m n f=>?_;refine gb h fun q i h=>?_;refine LW.c0 (wR i) f fun o b=>?_;refine gB h ?_ ?_ <;> intro _ h
 · refine gb h fun s j h=>?_;refine go ?_;refine LW.c0 (wR j) b fun p c=>?_;refine gB h ?_ ?_ <;> intro _ h
   · refine gb h fun t k h=>?_;refine go ?_;refine LW.c0 (wR k) c fun l g=>?_;refine go ?_;cases h;exact fi g
   refine go ?_;cases h;exact fi c
 refine go ?_;cases h;exact fi b
theorem AG {w0 N f r} (h:sx N f=some r) {p B t} (Y:B=f.il.length) (ab:rb w0 p t f.il) {q C y} (Z:C=f.data.length) (ac:rb w0 q y f.data) {s G z} (aa:G=f.queue.length) (ad:rb w0 s z f.queue) :
    iq Tryz.prog 292 #[.agg #[vI f.gen,vI f.kind,vI f.box,vI f.res,vI f.iU,vI f.bh,vI f.wait,vI f.iW,vI f.iR,.bool f.mark,vS p B t,vS q C y,vS s G z]] w0 (fun v w=>v=.bool r∧St w0 [] w []):=by
 subst Y Z aa;unfold sx at h;refine iq.fn Tryz.func292 fun e=>?_;have bc:=St.start w0;refine go ?_;refine LW.bo bc fun cy cz bd=>?_;refine gb h fun cB bg h=>?_;refine LW.c0 (ji bg) bd fun cA b=>?_;refine gc h ?_ ?_ <;> intro _ h
 · refine go ?_;cases h;exact fi b
 refine gc h ?_ ?_ <;> intro _ h
 · refine gs ?_;obtain ⟨bA,bf,bv⟩:=ob h;refine CW.jn [] [] [(2,.bool bA)] b (h1:=?_) (h2:=?_)
   · have h:=bf;refine gB h ?_ ?_ <;> intro _ h
     · refine gB h ?_ ?_ <;> intro _ h
       · refine go ?_;refine bH h ?_ ?_ <;> intro _ h
         · refine gB h ?_ ?_ <;> intro _ h
           · refine gB h ?_ ?_ <;> intro _ h
             · refine gB h ?_ ?_ <;> intro _ h
               · refine gB h ?_ ?_ <;> intro _ h
                 · refine go ?_;refine bH h ?_ ?_ <;> intro _ h
                   · refine gB h ?_ ?_ <;> intro _ h
                     · refine gB h ?_ ?_ <;> intro _ h
                       · refine go ?_;cases oi h;exact b.po []
                       refine go ?_;cases oi h;exact b.po []
                     refine go ?_;cases oi h;exact b.po []
                   refine go ?_;cases oi h;exact b.po []
                 refine go ?_;cases oi h;exact b.po []
               refine go ?_;cases oi h;exact b.po []
             refine go ?_;cases oi h;exact b.po []
           refine go ?_;cases oi h;exact b.po []
         refine go ?_;cases oi h;exact b.po []
       refine go ?_;cases oi h;exact b.po []
     refine go ?_;cases oi h;exact b.po []
   intro e bY be;have h:=bv;refine go ?_;cases h;exact fi be
 refine gs ?_;obtain ⟨bi,aO,a9⟩:=ob h;refine CW.jn [1] [0] [(108,.bool bi)] b (h1:=?_) (h2:=?_)
 · have h:=aO;refine gb h fun ck aT h=>?_;refine LW.c0 (ji aT) b fun bZ ax=>?_;refine gB h ?_ ?_ <;> intro _ h
   · refine go ?_;cases oi h;exact ax.po [0]
   refine gb h fun cl aU h=>?_;refine go ?_;refine LW.c0 (ji aU) ax fun b0 ay=>?_;refine gB h ?_ ?_ <;> intro _ h
   · refine go ?_;cases oi h;exact ay.po [0]
   refine gb h fun cm aV h=>?_;refine go ?_;refine LW.c0 (nW aV) ay fun b1 az=>?_;refine go ?_;refine bH h ?_ ?_ <;> intro _ h
   · refine go ?_;cases oi h;exact az.po [0]
   refine gb h fun cn aW h=>?_;refine go ?_;refine LW.c0 (ji aW) az fun b2 aA=>?_;refine gB h ?_ ?_ <;> intro _ h
   · refine go ?_;cases oi h;exact aA.po [0]
   refine gb h fun co aX h=>?_;refine go ?_;refine LW.c0 (ji aX) aA fun b3 W=>?_;refine gB h ?_ ?_ <;> intro _ h
   · refine go ?_;cases oi h;exact W.po [0]
   refine gB h ?_ ?_ <;> intro _ h
   · refine go ?_;cases oi h;exact W.po [0]
   refine gb h fun cp aY h=>?_;refine go ?_;refine LW.c0 (ji aY) W fun b4 aG=>?_;refine go ?_;cases oi h;exact aG.po [0]
 intro e b5 J;have h:=a9;refine gc h ?_ ?_ <;> intro _ h
 · refine go ?_;cases h;exact fi J
 refine go ?_;obtain ⟨aB,aS,aw⟩:=ob h;refine CW.mono (CW.lx [1] [0] [1] 0 (fun aC=>[(3,vI aC)]) (RT Tryz.prog Tryz.f292.results (fun u=>.bool u) w0 []) J aS (hb:=?_)) ?_
 · intro aC e b6 o k h;refine gc h ?_ ?_ <;> intro _ h
   · refine gb h fun cq aZ h=>?_;obtain ⟨bW,bX,bu,rfl,X,bw,bz,rfl,aR⟩:=ab.idx aZ;refine go ?_;refine LW.l (iC.iP w0 jc rfl (aR 0 _ rfl)) (k.same _ X.1 X.2) rfl ?_;have ⟨cr,a0,h⟩:=ob h;refine LW.c0 (ji a0) k fun b7 K=>?_;refine go ?_;refine CW.fl [1,3,119] fun e=>?_;refine gc h ?_ ?_ <;> intro _ h
     · refine go ?_;cases oi h;exact ⟨trivial,rfl,_,rfl,rx ⟨rfl,K.pk []⟩⟩
     refine go ?_;cases oi h;exact ⟨rfl,(K.po [0])⟩
   refine go ?_;cases oi h;exact ⟨trivial,rfl,(k.po [0])⟩
 intro x e b8 hM;rcases aB with aB | bF
 · obtain ⟨rfl,hM⟩:=hM;obtain ⟨e,rfl,a⟩:=eo hM;have h:=aw;refine gs ?_;obtain ⟨bj,aP,ba⟩:=ob h;refine CW.jn [1] [0] [(165,.bool bj)] a (h1:=?_) (h2:=?_)
   · have h:=aP;refine gB h ?_ ?_ <;> intro _ h
     · refine gB h ?_ ?_ <;> intro _ h
       · refine go ?_;cases oi h;exact a.po [0]
       refine go ?_;refine bH h ?_ ?_ <;> intro _ h
       · refine go ?_;cases oi h;exact a.po [0]
       refine gB h ?_ ?_ <;> intro _ h
       · refine go ?_;cases oi h;exact a.po [0]
       refine gB h ?_ ?_ <;> intro _ h
       · refine gB h ?_ ?_ <;> intro _ h
         · refine go ?_;cases oi h;exact a.po [0]
         refine gB h ?_ ?_ <;> intro _ h
         · refine go ?_;have ⟨cs,a1,h⟩:=ob h;refine go ?_;refine LW.c0 (mK a1) a fun b9 L=>?_;refine gB h ?_ ?_ <;> intro _ h
           · refine go ?_;cases oi h;exact L.po [0]
           refine gb h fun ct a2 h=>?_;refine go ?_;refine LW.c0 (ji a2) L fun ca aH=>?_;refine go ?_;cases oi h;exact aH.po [0]
         refine go ?_;have ⟨cu,a3,h⟩:=ob h;refine go ?_;refine LW.c0 (ji a3) a fun cb aI=>?_;refine go ?_;cases oi h;exact aI.po [0]
       refine go ?_;cases oi h;exact a.po [0]
     refine go ?_;refine bH h ?_ ?_ <;> intro _ h
     · refine gB h ?_ ?_ <;> intro _ h
       · refine go ?_;cases oi h;exact a.po [0]
       refine gB h ?_ ?_ <;> intro _ h
       · refine gb h fun cv a4 h=>?_;refine go ?_;refine LW.c0 (mK a4) a fun cc M=>?_;refine gB h ?_ ?_ <;> intro _ h
         · refine go ?_;cases oi h;exact M.po [0]
         refine gb h fun cw a5 h=>?_;refine go ?_;refine LW.c0 (ji a5) M fun ce aJ=>?_;refine go ?_;cases oi h;exact aJ.po [0]
       refine gb h fun cx a6 h=>?_;refine go ?_;refine LW.c0 (ji a6) a fun cf aK=>?_;refine go ?_;cases oi h;exact aK.po [0]
     refine go ?_;cases oi h;exact a.po [0]
   intro e cg d;have h:=ba;refine gc h ?_ ?_ <;> intro _ h
   · refine go ?_;cases h;exact fi d
   refine gs ?_;obtain ⟨bk,aQ,bb⟩:=ob h;refine CW.jn [1] [0] [(195,.bool bk)] d (h1:=?_) (h2:=?_)
   · have h:=aQ;refine gB h ?_ ?_ <;> intro _ h
     · refine gB h ?_ ?_ <;> intro _ h
       · refine go ?_;cases oi h;exact d.po [0]
       refine go ?_;refine bH h ?_ ?_ <;> intro _ h
       · refine go ?_;cases oi h;exact d.po [0]
       refine gB h ?_ ?_ <;> intro _ h
       · refine go ?_;cases oi h;exact d.po [0]
       refine go ?_;cases oi h;exact d.po [0]
     refine go ?_;refine bH h ?_ ?_ <;> intro _ h
     · refine go ?_;cases oi h;exact d.po [0]
     refine go ?_;cases oi h;exact d.po [0]
   intro e ci O;have h:=bb;refine gc h ?_ ?_ <;> intro _ h
   · refine go ?_;cases h;exact fi O
   refine go ?_;obtain ⟨ae,am,H⟩:=ob h;refine CW.mono (CW.lx [1] [0] [1] 2 (fun aD=>[(4,vI aD)]) (RT Tryz.prog Tryz.f292.results (fun u=>.bool u) w0 []) O am (hb:=?_)) ?_
   · intro aD e cj o m h;refine go ?_;refine CW.fl [1,4,200] fun e=>?_;refine gc h ?_ ?_ <;> intro _ h
     · refine gb h fun bQ ao h=>?_;obtain ⟨bs,bB,bl,rfl,A,bn,bq,rfl,ak⟩:=ac.idx ao;refine go ?_;refine LW.l (iC.iP w0 jc rfl (ak 0 _ rfl)) (m.same _ A.1 A.2) rfl ?_;have ⟨bR,ap,h⟩:=ob h;refine LW.c0 (ji ap) m fun bG R=>?_;refine gc h ?_ ?_ <;> intro _ h
       · refine go ?_;cases oi h;exact ⟨trivial,rfl,_,rfl,rx ⟨rfl,R.pk []⟩⟩
       refine go ?_;cases oi h;exact ⟨rfl,(R.po [0])⟩
     refine go ?_;cases oi h;exact ⟨trivial,rfl,(m.po [0])⟩
   intro x e bI hM;rcases ae with ae | bE
   · obtain ⟨rfl,hM⟩:=hM;obtain ⟨e,rfl,j⟩:=eo hM;have h:=H;refine gs ?_;obtain ⟨a7,ai,aE⟩:=ob h;refine CW.jn [1] [0] [(224,.bool a7)] j (h1:=?_) (h2:=?_)
     · have h:=ai;refine gB h ?_ ?_ <;> intro _ h
       · refine go ?_;cases oi h;exact j.po [0]
       refine gB h ?_ ?_ <;> intro _ h
       · refine go ?_;cases oi h;exact j.po [0]
       refine go ?_;cases oi h;exact j.po [0]
     intro e bJ U;have h:=aE;refine gc h ?_ ?_ <;> intro _ h
     · refine go ?_;cases h;exact fi U
     refine go ?_;obtain ⟨af,an,I⟩:=ob h;refine CW.mono (CW.lx [1] [0] [] 4 (fun ah=>[(5,vI ah)]) (RT Tryz.prog Tryz.f292.results (fun u=>.bool u) w0 []) U an (hb:=?_)) ?_
     · intro ah e bK o g h;refine go ?_;refine CW.fl [1,5,229] fun e=>?_;refine gc h ?_ ?_ <;> intro _ h
       · refine gs ?_;refine CW.block ?_;refine gs ?_;obtain ⟨a8,aj,aF⟩:=ob h;refine CW.jn [1,5] [0] [(258,.bool a8)] g (h1:=?_) (h2:=?_)
         · have h:=aj;refine gb h fun bS aq h=>?_;obtain ⟨bt,bC,bm,rfl,c,bp,br,rfl,i⟩:=ad.idx aq;refine go ?_;refine LW.l (iC.iP w0 jc rfl (i 0 _ rfl)) (g.same _ c.1 c.2) rfl ?_;refine gB h ?_ ?_ <;> intro _ h
           · refine go ?_;refine LW.l (iC.iP w0 jc rfl (i 0 _ rfl)) (g.same _ c.1 c.2) rfl ?_;have ⟨bT,ar,h⟩:=ob h;refine go ?_;refine LW.c0 (mK ar) g fun bL n=>?_;refine gB h ?_ ?_ <;> intro _ h
             · refine go ?_;cases oi h;exact n.po [0]
             refine go ?_;refine LW.l (iC.iP w0 jc rfl (i 1 _ rfl)) (n.same _ c.1 c.2) rfl ?_;have ⟨bU,au,h⟩:=ob h;refine go ?_;refine LW.c0 (ji au) n fun bM aL=>?_;refine go ?_;cases oi h;exact aL.po [0]
           refine go ?_;refine LW.l (iC.iP w0 jc rfl (i 1 _ rfl)) (g.same _ c.1 c.2) rfl ?_;have ⟨bV,av,h⟩:=ob h;refine go ?_;refine LW.c0 (ji av) g fun bN aM=>?_;refine go ?_;cases oi h;exact aM.po [0]
         intro e bO V;have h:=aF;refine gc h ?_ ?_ <;> intro _ h
         · refine go ?_;cases oi h;exact ⟨trivial,rfl,_,rfl,rx ⟨rfl,V.pk []⟩⟩
         refine go ?_;cases oi h;exact ⟨rfl,(V.po [0])⟩
       refine go ?_;cases oi h;exact ⟨trivial,rfl,⟨trivial,g.pk [0]⟩⟩
     intro x e bP hM;rcases af with af | bD
     · obtain ⟨rfl,hM⟩:=hM;obtain ⟨e,rfl,aN⟩:=eo hM;rw [show e=iQ e [] from rfl];have h:=I;refine go ?_;cases h;exact fi aN
     obtain ⟨rfl,u,rfl,hM⟩:=hM;cases I;exact And.intro trivial hM
   obtain ⟨rfl,u,rfl,hM⟩:=hM;cases H;exact And.intro trivial hM
 obtain ⟨rfl,u,rfl,hM⟩:=hM;cases aw;exact And.intro trivial hM
theorem tV {w0 N a r} (h:nb N a=some r) {j y p} (A:y=a.ag.length) (C:rb w0 j p a.ag) {k z q} (B:z=a.gc.ia.length) (G:rb w0 k q a.gc.ia) :
    iq Tryz.prog 237 #[.agg #[vS j y p,vI a.gc.phase,vI a.gc.pos,vI a.gc.round,vS k z q]] w0 (fun v w=>∃ c f, ∃ d g,v=.agg #[vS c r.ag.length f,vI r.gc.phase,vI r.gc.pos,vI r.gc.round,vS d r.gc.ia.length g]∧St w0 [] w [sl c f r.ag,sl d g r.gc.ia]):=by
 subst A B;unfold nb at h;refine iq.fn Tryz.func237 fun e=>?_;have R:=St.start w0;refine go ?_;refine LW.bo R fun ai am U=>?_;refine LW.al U fun aj an V=>?_;refine go ?_;refine LW.al V fun ak ao W=>?_;refine LW.st W 0 fun ap X=>?_;refine go ?_;refine LW.jV (α:=Int) (vs:=[]) (cs:=#[]) (l:=([]:List Int)) rfl (by kernel_rfl) rfl rfl rfl (fun w=>rfl) X rfl ?_;intro af ah aa H hf;refine gb h fun J M h=>?_;refine LW.kA (l:=([]:List Int)) (m:=a.gc.ia) mT rfl rfl (H.rB G) M H (i:=0) rfl rfl ?_;intro n s ab Y hf;refine go ?_;refine LW.st Y 1 fun ac Z=>?_;refine go ?_;refine CW.draw (by kernel_rfl) ?_;have I:=Z.drew;refine gb h fun K O h=>?_;refine jO 2 ?_;refine LW.cl (uH O rfl (I.rB C)) ?_;rintro _ ad ⟨o,t,rfl,hs⟩;have L:=I.add hs;refine jn ?_;refine AW.u (i:=4) rfl (by kernel_rfl) rfl rfl (iD.build (vs:=[(0,vS o K.length t),(1,.agg #[vI a.gc.phase,vI a.gc.pos,vI a.gc.round,vS n J.length s])]) (cs:=#[vS o K.length t,vI a.gc.phase,vI a.gc.pos,vI a.gc.round,vS n J.length s]) rfl (by kernel_rfl)) ?_;refine jO 5 ?_;refine LW.st L 3 fun ae x=>?_;refine jn ?_;refine go ?_;cases h;exact And.intro trivial ⟨_,jB.one (ic.b x 3 rfl nD rfl rfl),o,t,n,s,rfl,x.pk [0,1]⟩
theorem Bi {w0 N a r} (h:sH N a=some r) :
    iq Tryz.prog 129 #[.agg #[vI a.res,vI a.jJ,vI a.mf,vI a.kp,vI a.kind,vI a.lk]] w0 (fun v w=>v=.bool r∧St w0 [] w []):=by
 unfold sH at h;refine iq.fn Tryz.func129 fun e=>?_;have m:=St.start w0;refine go ?_;refine LW.bo m fun K L c=>?_;refine gs ?_;obtain ⟨x,q,u⟩:=ob h;refine CW.jn [1] [0] [(24,.bool x)] c (h1:=?_) (h2:=?_)
 · have h:=q;refine gb h fun R s h=>?_;refine LW.c0 (nW s) c fun M d=>?_;refine gB h ?_ ?_ <;> intro _ h
   · refine go ?_;cases oi h;exact d.po [0]
   refine gb h fun U t h=>?_;refine go ?_;refine LW.c0 (ji t) d fun O f=>?_;refine gB h ?_ ?_ <;> intro _ h
   · refine go ?_;cases oi h;exact f.po [0]
   refine gb h fun G i h=>?_;refine go ?_;refine LW.c0 (nW i) f fun y g=>?_;refine gB h ?_ ?_ <;> intro _ h
   · refine go ?_;cases oi h;exact g.po [0]
   refine gb h fun H j h=>?_;refine go ?_;refine LW.c0 (ji j) g fun z n=>?_;refine go ?_;cases oi h;exact n.po [0]
 intro e A b;have h:=u;refine gc h ?_ ?_ <;> intro _ h
 · refine go ?_;cases h;exact fi b
 refine gc h ?_ ?_ <;> intro _ h
 · refine gb h fun I k h=>?_;refine LW.c0 (ji k) b fun B o=>?_;refine go ?_;cases h;exact fi o
 refine gc h ?_ ?_ <;> intro _ h
 · refine gb h fun J l h=>?_;refine LW.c0 (ji l) b fun C p=>?_;refine go ?_;cases h;exact fi p
 refine go ?_;cases h;exact fi b
theorem vT {w0 N d r} (h:ns N d=some r) :
    iq Tryz.prog 150 #[vI d] w0 (fun v w=>v=vI r∧St w0 [] w []):=by
 unfold ns at h;refine iq.fn Tryz.func150 fun e=>?_;have b:=St.start w0;refine gb h fun g c h=>?_;refine LW.c0 (mK c) b fun f a=>?_;refine gc h ?_ ?_ <;> intro _ h
 · refine go ?_;cases h;exact fi a
 refine go ?_;refine LW.u (iD.rem rfl rfl (by decide)) rfl ?_;refine go ?_;cases h;exact fi a
theorem An {w0 N d r} (h:oB N d=some r) :
    iq Tryz.prog 241 #[vI d] w0 (fun v w=>v=vI r∧St w0 [] w []):=by
 unfold oB at h;refine iq.fn Tryz.func241 fun e=>?_;have b:=St.start w0;refine gb h fun g c h=>?_;refine LW.c0 (mK c) b fun f a=>?_;refine gc h ?_ ?_ <;> intro _ h
 · refine go ?_;cases h;exact fi a
 refine go ?_;refine LW.u (iD.quo rfl rfl (by decide)) rfl ?_;refine LW.u (iD.rem rfl rfl (by decide)) rfl ?_;refine go ?_;cases h;exact fi a
theorem Bx {w0 N d r} (h:pe N d=some r) :
    iq Tryz.prog 242 #[vI d] w0 (fun v w=>v=vI r∧St w0 [] w []):=by
 unfold pe at h;refine iq.fn Tryz.func242 fun e=>?_;have b:=St.start w0;refine gb h fun g c h=>?_;refine LW.c0 (mK c) b fun f a=>?_;refine gc h ?_ ?_ <;> intro _ h
 · refine go ?_;cases h;exact fi a
 refine go ?_;refine LW.u (iD.quo rfl rfl (by decide)) rfl ?_;refine LW.u (iD.quo rfl rfl (by decide)) rfl ?_;refine go ?_;cases h;exact fi a
theorem td {w0 N l m n r} (h:mS N l m n=some r) :
    iq Tryz.prog 138 #[vI l,vI m,vI n] w0 (fun v w=>v=vI r∧St w0 [] w []):=by
 unfold mS at h;refine iq.fn Tryz.func138 fun e=>?_;have a:=St.start w0;refine gs ?_;refine CW.region ?_;refine gs ?_;obtain ⟨o,g,h2⟩:=ob h;refine CW.jn [0,1,2] [] [(19,.bool o)] a (h1:=?_) (h2:=?_)
 · have h:=g;refine gb h fun u i h=>?_;refine LW.c0 (ji i) a fun s b=>?_;refine gB h ?_ ?_ <;> intro _ h
   · refine go ?_;cases oi h;exact b.po []
   refine gb h fun x j h=>?_;refine go ?_;refine LW.c0 (nQ j) b fun t c=>?_;refine gB h ?_ ?_ <;> intro _ h
   · refine go ?_;cases oi h;exact c.po []
   refine gb h fun y k h=>?_;refine go ?_;refine LW.c0 (ji k) c fun p f=>?_;refine go ?_;cases oi h;exact f.po []
 intro e q d;have h:=h2;refine gc h ?_ ?_ <;> intro _ h
 · refine go ?_;cases h;exact fi d
 refine go ?_;cases h;exact fi d
theorem nn {w0 N a r} (h:lM N a=some r) :
    iq Tryz.prog 113 #[.agg #[vI a.bh,vI a.ib,vI a.ik]] w0 (fun v w=>v=.bool r∧St w0 [] w []):=by
 unfold lM at h;refine iq.fn Tryz.func113 fun e=>?_;have d:=St.start w0;refine go ?_;refine LW.bo d fun m n f=>?_;refine gb h fun q i h=>?_;refine LW.c0 (u6 i) f fun o b=>?_;refine gB h ?_ ?_ <;> intro _ h
 · refine gb h fun s j h=>?_;refine go ?_;refine LW.c0 (u6 j) b fun p c=>?_;refine gB h ?_ ?_ <;> intro _ h
   · refine gb h fun t k h=>?_;refine go ?_;refine LW.c0 (u6 k) c fun l g=>?_;refine go ?_;cases h;exact fi g
   refine go ?_;cases h;exact fi c
 refine go ?_;cases h;exact fi b
theorem tm {w0 N k p r} (h:m7 N k p=some r) {a f b} (g:f=k.length) (i:rb w0 a b k) :
    iq Tryz.prog 145 #[vS a f b,vI p] w0 (fun v w=>v=.bool r∧St w0 [] w []):=by
 subst g;unfold m7 at h;refine iq.fn Tryz.func145 fun e=>?_;have m:=St.start w0;refine gb h fun z n h=>?_;refine LW.c0 (tS n) m fun y c=>?_;refine gB h ?_ ?_ <;> intro _ h
 · refine gb h fun A o h=>?_;obtain ⟨u,x,q,rfl,d,s,t,rfl,j⟩:=i.idx o;refine go ?_;refine LW.l (iC.iP w0 qI rfl (j 0 _ rfl)) (c.same _ d.1 d.2) rfl ?_;refine go ?_;cases h;exact fi c
 refine go ?_;cases h;exact fi c
theorem ur {w0 N A r} (h:nK N A=some r) {d z f} (B:z=A.length) (C:rb w0 d f A) :
    iq Tryz.prog 286 #[vS d z f] w0 (fun v w=>∃ K V,v=vS K r.length V∧St w0 [] w [sl K V r]):=by
 subst B;unfold nK at h;refine iq.fn Tryz.func286 fun e=>?_;have ai:=St.start w0;refine go ?_;refine LW.jV (α:=cd) (vs:=[]) (cs:=#[]) (l:=([]:List cd)) rfl (by kernel_rfl) rfl rfl rfl (fun w=>rfl) ai rfl ?_;intro au av aJ aj hf;refine go ?_;obtain ⟨aB,Y,ah⟩:=ob h;refine CW.ie Y 0 (fun t e wb=>∃ (b:Ad) (c:Nat),En e [(3,vS b t.1.length c),(7,vS d A.length f),(8,vI (A.length:Int)),(9,vI t.2)]∧St w0 [] wb [sl b c t.1]) ?_ ⟨au,av,aj.po [0]⟩ ?_
 · intro t e aK o hM h;obtain ⟨b,c,hE,x⟩:=hM;obtain ⟨e,rfl⟩:=hE.out;refine gc h ?_ ?_ <;> intro _ h
   · refine gb h fun ar aq h=>?_;obtain ⟨ax,aA,aw,rfl,y,ay,az,⟨H,O,I,R,J,U,rfl,Z,aa,ab⟩,X⟩:=C.idx aq;refine go ?_;refine LW.l (iC.jH w0 kW rfl rfl (fun j u hu=>X j u hu)) (x.same _ y.1 y.2) rfl ?_;refine LW.al x fun W aD ak=>?_;refine LW.st ak 0 fun aE s=>?_;refine gb h fun a ac h=>?_;refine LW.cl (DC ac rfl (s.rB Z) rfl (s.rB aa) rfl (s.rB ab)) ?_;rintro _ aF ⟨g,n,k,p,m,q,rfl,hs⟩;have am:=s.add hs;have an:=am.pk (M:=[sl g n a.il,sl k p a.data,sl m q a.queue]++[bx W 160 (qO H O I R J U ar),sl b c t.1]) [0,1,2,3,4];have ⟨aI,ad,h⟩:=ob h;refine LW.lj (M:=[sl g n a.il,sl k p a.data,sl m q a.queue]) (L:=[bx W 160 (qO H O I R J U ar),sl b c t.1]) (vs:=#[vI a.gen,vI a.kind,vI a.box,vI a.res,vI a.iU,vI a.bh,vI a.wait,vI a.iW,vI a.iR,.bool a.mark,vS g a.il.length n,vS k a.data.length p,vS m a.queue.length q]) (i:=1) HI rfl (by kernel_rfl) rfl rfl ad an rfl (fun w G hG=>⟨g,n,k,p,m,q,rfl,hG⟩) rfl rfl ?_;intro aC ae af aG ao hf;refine go ?_;cases oi h;exact ⟨rfl,⟨ae,af,ao.po [1]⟩⟩
   refine go ?_;cases oi h;exact ⟨trivial,rfl,⟨b,c,x.po [0]⟩⟩
 rintro e aH ⟨b,c,hE,ap⟩;obtain ⟨e,rfl⟩:=hE.out;have h:=ah;refine go ?_;cases h;exact Ra ⟨b,c,rfl,ap.pk [0]⟩
end Go.Kx
