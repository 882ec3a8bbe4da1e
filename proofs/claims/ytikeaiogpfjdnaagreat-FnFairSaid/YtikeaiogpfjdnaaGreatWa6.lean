/- Each call returns what the plain function says. Printed by drive.py. -/
import Derived.Test.YtikeaiogpfjdnaaGreatFa
import Derived.Test.YtikeaiogpfjdnaaGreatPu
import Derived.Test.YtikeaiogpfjdnaaGreatWa4
import Derived.Test.YtikeaiogpfjdnaaGreatWa5
namespace Go.Kx
open Go Go.RowKit Go.Proofs
set_option maxRecDepth 10000
set_option maxHeartbeats 8000000
set_option linter.unusedVariables false
set_option linter.unusedSimpArgs false
theorem W_i_edgesOf {w0 N n an r} (h:F_i_edgesOf N n an=some r) {d y f} (z:y=n.length) (g:rb w0 d f n) :
    Ret Tryz.prog 167 #[vS d y f,vI an] w0 (fun v w=>∃ A B,v=vS A r.length B∧St w0 [] w [sl A B r]):=by
 subst z;unfold F_i_edgesOf at h;refine Ret.fn Tryz.func167 fun e=>?_;have av:=St.start w0;refine go ?_;refine LW.bsl (α:=Int) (vs:=[]) (cs:=#[]) (l:=([]:List Int)) rfl (by kernel_rfl) rfl rfl rfl (fun w=>rfl) av rfl ?_;intro aG aH bz aw hf;refine go ?_;obtain ⟨bk,ab,au⟩:=ob h;refine CW.ie ab 0 (fun m e wb=>∃ (a:Ad) (b:Nat),En e [(0,vS d n.length f),(1,vI an),(5,vS a m.1.length b),(10,vS d n.length f),(11,vI (n.length:Int)),(12,vI m.2)]∧St w0 [] wb [sl a b m.1]) ?_ ⟨aG,aH,aw.po [0]⟩ ?_
 · intro m e bA o hM h;obtain ⟨a,b,hE,p⟩:=hM;obtain ⟨e,rfl⟩:=hE.out;refine go ?_;refine ch h (fun aA h=>?_) fun aA h=>?_
   · refine gb h fun bB aD h=>?_;obtain ⟨a3,bg,aI,rfl,q,aB,aC,⟨aT,a6,aU,a7,aV,a8,rfl,aL,aM,aN⟩,Y⟩:=g.idx aD;refine ix aB aC ?_;refine LW.l (Ldr.oldN w0 ag44 rfl rfl (fun j u hu=>Y j u hu)) (p.same _ q.1 q.2) rfl ?_;refine LW.al p fun bf bm ax=>?_;refine go ?_;refine LW.st ax 0 fun bn c=>?_;refine gs ?_;obtain ⟨aE,W,aq⟩:=ob h;refine CW.jn [0,1,5,6,10,11,12] [1] [(8,.bool aE)] c (h1:=?_) (h2:=?_)
     · have h:=W;refine go ?_;rcases bh h with ⟨I,h⟩ | ⟨I,h⟩
       · refine go ?_;rcases bh h with ⟨J,h⟩ | ⟨J,h⟩
         · refine go ?_;refine LW.fl [0,1,5,6,10,11,12,30] fun e=>?_;rcases bh h with ⟨K,h⟩ | ⟨K,h⟩
           · refine gb h fun bt ai h=>?_;obtain ⟨a4,bi,aJ,hae,s,ac,ae,U,Z⟩:=g.idx ai;cases hae;obtain ⟨aW,a9,aX,ba,aY,bb,rfl,aO,aP,aQ⟩:=U;refine go ?_;refine ix ac ae ?_;refine go ?_;refine LW.l (Ldr.old w0 ag3 rfl (Z 1 _ rfl)) (c.same _ s.1 s.2) rfl ?_;refine go ?_;cases oi h;exact c.po [1]
           refine go ?_;cases oi h;exact c.po [1]
         refine go ?_;cases oi h;exact c.po [1]
       refine go ?_;cases oi h;exact c.po [1]
     intro e bo k;have h:=aq;refine gs ?_;obtain ⟨aF,X,ar⟩:=ob h;refine CW.jn [0,1,5,6,10,11,12] [0] [(47,.bool aF)] k (h1:=?_) (h2:=?_)
     · have h:=X;refine go ?_;rcases bh h with ⟨O,h⟩ | ⟨O,h⟩
       · refine go ?_;cases oi h;exact k.po [0]
       refine gb h fun bu aj h=>?_;obtain ⟨a5,bj,aK,hae,x,ad,af,V,aa⟩:=g.idx aj;cases hae;obtain ⟨aZ,bc,a0,bd,a2,be,rfl,ah,aR,aS⟩:=V;refine go ?_;refine ix ad af ?_;refine go ?_;refine LW.l (Ldr.old w0 ag24 rfl (aa 10 _ rfl)) (k.same _ x.1 x.2) rfl ?_;refine gb h fun bv ak h=>?_;refine go ?_;refine LW.c0 (W_z_Contains_int ak rfl (k.rB ah)) k fun bp ay=>?_;refine go ?_;cases oi h;exact ay.po [0]
     intro e bq C;have h:=ar;refine go ?_;refine CW.fl [0,1,5,6,10,11,12,47] fun e=>?_;refine ch h (fun R h=>?_) fun R h=>?_
     · refine gb h fun bw am h=>?_;refine LW.app1 (M:=[]) (L:=[sl a b m.1]) (vs:=#[vI m.2]) (i:=0) sT24 rfl (by kernel_rfl) rfl rfl am C rfl (fun w G hG=>by cases (show G=[] from hG);exact ⟨rfl,rfl⟩) rfl rfl ?_;intro bl ao ap br az hf;refine go ?_;cases oi h;exact ⟨rfl,⟨ao,ap,az.po [0]⟩⟩
     refine go ?_;cases oi h;exact ⟨rfl,⟨a,b,C.po [0]⟩⟩
   refine go ?_;cases oi h;exact ⟨trivial,rfl,⟨a,b,p.po [0]⟩⟩
 rintro e bs ⟨a,b,hE,H⟩;obtain ⟨e,rfl⟩:=hE.out;have h:=au;refine go ?_;cases h;exact And.intro trivial ⟨_,Res.one (resOne.t rfl),a,b,rfl,H.pk [0]⟩
theorem W_s_l13Copy {w0 N a r} (h:F_s_l13Copy N a=some r) {y V H} (ab:V=a.label.levels.length) (ai:rb w0 y H a.label.levels) {z W I} (ac:W=a.own.length) (aj:rb w0 z I a.own) {A X J} (ad:X=a.tree.length) (ak:rb w0 A J a.tree) {B Y K} (ae:Y=a.heap.arena.length) (am:rb w0 B K a.heap.arena) {C Z L} (af:Z=a.heap.gc.grey.length) (an:rb w0 C L a.heap.gc.grey) {G aa M} (ah:aa=a.taps.length) (ao:rb w0 G M a.taps) :
    Ret Tryz.prog 90 #[.agg #[vS y V H,vS z W I,vS A X J,vS B Y K,vI a.heap.gc.phase,vI a.heap.gc.pos,vI a.heap.gc.round,vS C Z L,vS G aa M,vI a.next,vI a.want,vI a.spent.pages,vI a.spent.rent,vI a.spent.cpu,vI a.press,vI a.lost]] w0 (fun v w=>∃ d o, ∃ f p, ∃ g q, ∃ j s, ∃ k t, ∃ n x,v=.agg #[vS d r.label.levels.length o,vS f r.own.length p,vS g r.tree.length q,vS j r.heap.arena.length s,vI r.heap.gc.phase,vI r.heap.gc.pos,vI r.heap.gc.round,vS k r.heap.gc.grey.length t,vS n r.taps.length x,vI r.next,vI r.want,vI r.spent.pages,vI r.spent.rent,vI r.spent.cpu,vI r.press,vI r.lost]∧St w0 [] w [sl d o r.label.levels,sl f p r.own,sl g q r.tree,sl j s r.heap.arena,sl k t r.heap.gc.grey,sl n x r.taps]):=by
 subst ab ac ad ae af ah;unfold F_s_l13Copy at h;refine Ret.fn Tryz.func90 fun e=>?_;have aO:=St.start w0;refine go ?_;refine LW.bo aO fun bm bp aP=>?_;refine LW.al aP fun bn bq aQ=>?_;refine go ?_;refine LW.bsl (α:=Int) (vs:=[]) (cs:=#[]) (l:=([]:List Int)) rfl (by kernel_rfl) rfl rfl rfl (fun w=>rfl) aQ rfl ?_;intro bk bl br ap hf;refine gb h fun aV aU h=>?_;refine LW.appN (l:=([]:List Int)) (m:=a.label.levels) sT24 rfl rfl (ap.rB ai) aU ap (i:=0) rfl rfl ?_;intro au O a0 aR hf;refine LW.u (Pur.build (vs:=[(0,vS au aV.length O)]) (cs:=#[vS au aV.length O]) rfl (by kernel_rfl)) rfl ?_;refine go ?_;refine LW.st aR 2 fun a1 aS=>?_;refine go ?_;refine LW.bsl (α:=Int) (vs:=[]) (cs:=#[]) (l:=([]:List Int)) rfl (by kernel_rfl) rfl rfl rfl (fun w=>rfl) aS rfl ?_;intro aW aY a2 aq hf;refine gb h fun bf aA h=>?_;refine LW.appN (l:=([]:List Int)) (m:=a.own) sT24 rfl rfl (aq.rB aj) aA aq (i:=0) rfl rfl ?_;intro aE aJ a3 aT hf;refine go ?_;refine LW.st aT 3 fun a4 ar=>?_;refine gb h fun bg aB h=>?_;refine LW.cl (W_s_l6Copy aB rfl (ar.rB ak)) ?_;rintro _ a6 ⟨aF,aK,rfl,hs⟩;have av:=ar.add hs;refine go ?_;refine LW.st av 4 fun a7 c=>?_;refine gb h fun bi aC h=>?_;refine LW.cl (W_s_l10Copy aC rfl (c.rB am) rfl (c.rB an)) ?_;rintro _ a8 ⟨aG,aL,aH,aM,rfl,hs⟩;have aw:=c.add hs;refine go ?_;refine LW.fl [1,2,21,22] fun e=>?_;refine LW.st aw 6 fun ba ax=>?_;refine go ?_;refine LW.bsl (α:=DTap) (vs:=[]) (cs:=#[]) (l:=([]:List DTap)) rfl (by kernel_rfl) rfl rfl rfl (fun w=>rfl) ax rfl ?_;intro aX aZ bb R hf;refine gb h fun bj aD h=>?_;refine LW.appN (l:=([]:List DTap)) (m:=a.taps) sT33 rfl rfl (R.rB ao) aD R (i:=0) rfl rfl ?_;intro aI aN bc ay hf;refine go ?_;refine LW.st ay 7 fun bd az=>?_;refine go ?_;refine LW.st az 6 fun be U=>?_;refine go ?_;cases h;exact And.intro trivial ⟨_,Res.one (resOne.b U 6 rfl ag37 rfl rfl),au,O,aE,aJ,aF,aK,aG,aL,aH,aM,aI,aN,rfl,U.pk [5,4,3,1,2,0]⟩
theorem W_s_TreeOk {w0 N bc r} (h:F_s_TreeOk N bc=some r) {H W I} (ad:W=bc.length) (a:rb w0 H I bc) :
    Ret Tryz.prog 77 #[vS H W I] w0 (fun v w=>v=.bool r∧St w0 [] w []):=by
 subst ad;unfold F_s_TreeOk at h;refine Ret.fn Tryz.func77 fun e=>?_;have i:=St.start w0;refine gs ?_;refine CW.region ?_;refine gs ?_;obtain ⟨bB,bm,h2⟩:=ob h;refine CW.jn [0] [] [(23,.bool bB)] i (h1:=?_) (h2:=?_)
 · have h:=bm;refine go ?_;rcases bh h with ⟨bl,h⟩ | ⟨bl,h⟩
   · refine go ?_;cases oi h;exact i.po []
   refine gb h fun cm bn h=>?_;obtain ⟨ck,cl,bS,rfl,p,ap,aq,rfl,V⟩:=a.idx bn;refine go ?_;refine ix ap aq ?_;refine go ?_;refine LW.l (Ldr.old w0 ag4 rfl (V 0 _ rfl)) (i.same _ p.1 p.2) rfl ?_;refine go ?_;rcases bh h with ⟨az,h⟩ | ⟨az,h⟩
   · refine go ?_;cases oi h;exact i.po []
   refine go ?_;refine ix ap aq ?_;refine go ?_;refine LW.l (Ldr.old w0 ag3 rfl (V 1 _ rfl)) (i.same _ p.1 p.2) rfl ?_;refine go ?_;cases oi h;exact i.po []
 intro e bZ an;have h:=h2;refine go ?_;refine ch h (fun aA h=>?_) fun aA h=>?_
 · refine go ?_;cases h;exact fi an
 refine go ?_;obtain ⟨ar,aV,am⟩:=ob h;refine CW.mono (CW.lx [0] [] [0] 0 (fun au=>[(3,vI au)]) (RT Tryz.prog Tryz.f77.results (fun u=>.bool u) w0 []) an aV (hb:=?_)) ?_
 · intro au e b0 o d h;refine go ?_;refine ch h (fun aB h=>?_) fun aB h=>?_
   · refine gs ?_;refine CW.block ?_;refine gs ?_;obtain ⟨bo,aP,bd⟩:=ob h;refine CW.jn [0,3] [] [(52,.bool bo)] d (h1:=?_) (h2:=?_)
     · have h:=aP;refine gb h fun br a3 h=>?_;obtain ⟨bN,bT,bu,rfl,b,y,A,rfl,q⟩:=a.idx a3;refine ix y A ?_;refine go ?_;refine LW.l (Ldr.old w0 ag4 rfl (q 0 _ rfl)) (d.same _ b.1 b.2) rfl ?_;refine go ?_;rcases bh h with ⟨aC,h⟩ | ⟨aC,h⟩
       · refine go ?_;refine ix y A ?_;refine go ?_;refine LW.l (Ldr.oldN w0 ag46 rfl rfl (fun j u hu=>q j u hu)) (d.same _ b.1 b.2) rfl ?_;refine go ?_;refine LW.u (Pur.build (vs:=[]) (cs:=#[.bool false,vI 0,vI 0,vI 0,vI 0]) rfl (by kernel_rfl)) rfl ?_;refine go ?_;refine LW.u (Pur.ane eg46 rfl rfl (fun w=>eq46 br (DRes.mk false 0 (DAmt.mk 0 0 0)) w)) rfl ?_;refine go ?_;rcases bh h with ⟨aD,h⟩ | ⟨aD,h⟩
         · refine go ?_;cases oi h;exact d.po []
         refine go ?_;refine LW.fl [0,3,44,45,46] fun e=>?_;refine go ?_;refine ix y A ?_;refine go ?_;refine LW.l (Ldr.oldN w0 ag35 rfl rfl (fun j u hu=>oldsub (m:=3) q 2 hu)) (d.same _ b.1 b.2) rfl ?_;have ⟨cb,a4,h⟩:=ob h;refine go ?_;refine LW.c0 (W_s_AmtOk a4) d fun b1 bi=>?_;refine go ?_;cases oi h;exact bi.po []
       refine go ?_;refine LW.fl [0,3,44,45,46] fun e=>?_;refine go ?_;refine ix y A ?_;refine go ?_;refine LW.l (Ldr.oldN w0 ag35 rfl rfl (fun j u hu=>oldsub (m:=3) q 2 hu)) (d.same _ b.1 b.2) rfl ?_;have ⟨cc,a5,h⟩:=ob h;refine go ?_;refine LW.c0 (W_s_AmtOk a5) d fun b2 bj=>?_;refine go ?_;cases oi h;exact bj.po []
     intro e b3 g;have h:=bd;refine go ?_;refine ch h (fun aE h=>?_) fun aE h=>?_
     · refine go ?_;cases oi h;exact ⟨trivial,rfl,_,rfl,⟨_,Res.one (resOne.t rfl),rfl,g.pk []⟩⟩
     refine gs ?_;obtain ⟨bp,aQ,be⟩:=ob h;refine CW.jn [0,3] [] [(91,.bool bp)] g (h1:=?_) (h2:=?_)
     · have h:=aQ;refine go ?_;rcases bh h with ⟨aF,h⟩ | ⟨aF,h⟩
       · refine gb h fun ce a6 h=>?_;obtain ⟨bO,bU,bv,rfl,c,z,B,rfl,s⟩:=a.idx a6;refine go ?_;refine ix z B ?_;refine go ?_;refine LW.l (Ldr.old w0 ag4 rfl (s 0 _ rfl)) (g.same _ c.1 c.2) rfl ?_;refine go ?_;rcases bh h with ⟨aG,h⟩ | ⟨aG,h⟩
         · refine go ?_;refine ix z B ?_;refine go ?_;refine LW.l (Ldr.old w0 ag3 rfl (s 1 _ rfl)) (g.same _ c.1 c.2) rfl ?_;have ⟨cf,a7,h⟩:=ob h;refine go ?_;refine LW.c0 (W_s_l6Res a7) g fun b4 k=>?_;refine go ?_;refine LW.fl [0,3,62,70] fun e=>?_;rcases bh h with ⟨aH,h⟩ | ⟨aH,h⟩
           · refine go ?_;cases oi h;exact k.po []
           refine go ?_;refine ix z B ?_;refine go ?_;refine LW.l (Ldr.old w0 ag3 rfl (s 1 _ rfl)) (k.same _ c.1 c.2) rfl ?_;refine go ?_;rcases bh h with ⟨aI,h⟩ | ⟨aI,h⟩
           · refine go ?_;cases oi h;exact k.po []
           refine go ?_;refine ix z B ?_;refine go ?_;refine LW.l (Ldr.old w0 ag3 rfl (s 1 _ rfl)) (k.same _ c.1 c.2) rfl ?_;have ⟨cg,a8,h⟩:=ob h;obtain ⟨bP,bV,bw,hae,O,aX,a0,aO,aS⟩:=a.idx a8;cases hae;obtain rfl:=aO;refine go ?_;refine ix aX a0 ?_;refine go ?_;refine LW.l (Ldr.old w0 ag4 rfl (aS 0 _ rfl)) (k.same _ O.1 O.2) rfl ?_;refine go ?_;cases oi h;exact k.po []
         refine go ?_;cases oi h;exact g.po []
       refine go ?_;cases oi h;exact g.po []
     intro e b5 ao;have h:=be;refine go ?_;refine ch h (fun aJ h=>?_) fun aJ h=>?_
     · refine go ?_;cases oi h;exact ⟨trivial,rfl,_,rfl,⟨_,Res.one (resOne.t rfl),rfl,ao.pk []⟩⟩
     refine go ?_;cases oi h;exact ⟨rfl,(ao.po [])⟩
   refine go ?_;cases oi h;exact ⟨trivial,rfl,(d.po [])⟩
 intro x e b6 hM;rcases ar with ar | bE
 · obtain ⟨rfl,hM⟩:=hM;obtain ⟨hE,bk⟩:=hM;obtain ⟨e,rfl⟩:=hE.out;have h:=am;refine go ?_;obtain ⟨X,ae,J⟩:=ob h;refine CW.mono (CW.lx [0] [] [0] 2 (fun av=>[(4,vI av)]) (RT Tryz.prog Tryz.f77.results (fun u=>.bool u) w0 []) bk ae (hb:=?_)) ?_
   · intro av e b8 o K h;refine go ?_;refine ch h (fun aK h=>?_) fun aK h=>?_
     · refine go ?_;obtain ⟨bY,aW,bg⟩:=ob h;refine CW.mono (CW.lb [0,4] [] [0,4,5] 4 (fun Y=>[(5,vI Y.1),(6,vI Y.2)]) K aW (hb:=?_)) ?_
       · intro Y e b9 o f h;refine gs ?_;obtain ⟨bq,aR,bf⟩:=ob h;refine CW.jn [0,4,5,6] [] [(111,.bool bq)] f (h1:=?_) (h2:=?_)
         · have h:=aR;refine go ?_;rcases bh h with ⟨aL,h⟩ | ⟨aL,h⟩
           · refine gb h fun ci a9 h=>?_;obtain ⟨bQ,bW,bz,rfl,R,aY,a1,rfl,aT⟩:=a.idx a9;refine go ?_;refine ix aY a1 ?_;refine go ?_;refine LW.l (Ldr.old w0 ag4 rfl (aT 0 _ rfl)) (f.same _ R.1 R.2) rfl ?_;refine go ?_;rcases bh h with ⟨aM,h⟩ | ⟨aM,h⟩
             · refine go ?_;cases oi h;exact f.po []
             refine go ?_;cases oi h;exact f.po []
           refine go ?_;cases oi h;exact f.po []
         intro e ca C;have h:=bf;refine go ?_;refine ch h (fun aN h=>?_) fun aN h=>?_
         · refine gb h fun cj ba h=>?_;obtain ⟨bR,bX,bA,rfl,U,aZ,a2,rfl,aU⟩:=a.idx ba;refine ix aZ a2 ?_;refine go ?_;refine LW.l (Ldr.old w0 ag3 rfl (aU 1 _ rfl)) (C.same _ U.1 U.2) rfl ?_;refine go ?_;cases oi h;exact ⟨rfl,(C.po [])⟩
         refine go ?_;cases oi h;exact ⟨trivial,rfl,(C.po [])⟩
       intro x e bF hM;obtain ⟨rfl,hM⟩:=hM;obtain ⟨hE,n⟩:=hM;obtain ⟨e,rfl⟩:=hE.out;have h:=bg;refine gs ?_;obtain ⟨bb,ab,aw⟩:=ob h;refine CW.jn [0,4] [] [(127,.bool bb)] n (h1:=?_) (h2:=?_)
       · have h:=ab;refine gb h fun bK ai h=>?_;obtain ⟨bt,bC,bs,rfl,G,af,ah,rfl,ac⟩:=a.idx ai;refine ix af ah ?_;refine go ?_;refine LW.l (Ldr.old w0 ag4 rfl (ac 0 _ rfl)) (n.same _ G.1 G.2) rfl ?_;refine go ?_;rcases bh h with ⟨Z,h⟩ | ⟨Z,h⟩
         · refine go ?_;cases oi h;exact n.po []
         refine go ?_;cases oi h;exact n.po []
       intro e bG L;have h:=aw;refine go ?_;refine ch h (fun aa h=>?_) fun aa h=>?_
       · refine go ?_;cases oi h;exact ⟨trivial,rfl,_,rfl,⟨_,Res.one (resOne.t rfl),rfl,L.pk []⟩⟩
       refine go ?_;cases oi h;exact ⟨rfl,(L.po [])⟩
     refine go ?_;cases oi h;exact ⟨trivial,rfl,(K.po [])⟩
   intro x e bH hM;rcases X with X | bD
   · obtain ⟨rfl,hM⟩:=hM;obtain ⟨hE,M⟩:=hM;obtain ⟨e,rfl⟩:=hE.out;have h:=J;refine gb h fun bL aj h=>?_;refine LW.c0 (W_s_l6Sum aj rfl (M.rB a)) M fun bI ax=>?_;have ⟨bM,ak,h⟩:=ob h;refine LW.c0 (W_s_AmtOk ak) ax fun bJ ay=>?_;refine go ?_;cases h;exact fi ay
   obtain ⟨rfl,u,rfl,hM⟩:=hM;cases J;exact And.intro trivial hM
 obtain ⟨rfl,u,rfl,hM⟩:=hM;cases am;exact And.intro trivial hM
theorem W_s_ArenaOk {w0 N aR r} (h:F_s_ArenaOk N aR=some r) {z M A} (aa:M=aR.length) (c:rb w0 z A aR) :
    Ret Tryz.prog 98 #[vS z M A] w0 (fun v w=>v=.bool r∧St w0 [] w []):=by
 subst aa;unfold F_s_ArenaOk at h;refine Ret.fn Tryz.func98 fun e=>?_;have f:=St.start w0;refine gs ?_;refine CW.region ?_;refine gs ?_;obtain ⟨bn,aW,h2⟩:=ob h;refine CW.jn [0] [] [(29,.bool bn)] f (h1:=?_) (h2:=?_)
 · have h:=aW;refine go ?_;rcases bh h with ⟨aV,h⟩ | ⟨aV,h⟩
   · refine go ?_;cases oi h;exact f.po []
   refine gb h fun cj aX h=>?_;obtain ⟨cg,ci,b0,rfl,d,I,K,⟨bw,bO,bz,bP,bA,bQ,rfl,be,bf,bg⟩,q⟩:=c.idx aX;refine go ?_;refine ix I K ?_;refine go ?_;refine LW.l (Ldr.old w0 ag3 rfl (q 1 _ rfl)) (f.same _ d.1 d.2) rfl ?_;refine go ?_;rcases bh h with ⟨ao,h⟩ | ⟨ao,h⟩
   · refine go ?_;cases oi h;exact f.po []
   refine go ?_;refine ix I K ?_;refine go ?_;refine LW.l (Ldr.old w0 ag3 rfl (q 2 _ rfl)) (f.same _ d.1 d.2) rfl ?_;refine go ?_;rcases bh h with ⟨ap,h⟩ | ⟨ap,h⟩
   · refine go ?_;cases oi h;exact f.po []
   refine go ?_;refine ix I K ?_;refine go ?_;refine LW.fl [0,23,26] fun e=>?_;refine go ?_;refine LW.l (Ldr.old w0 ag3 rfl (q 4 _ rfl)) (f.same _ d.1 d.2) rfl ?_;refine go ?_;cases oi h;exact f.po []
 intro e b4 ah;have h:=h2;refine go ?_;refine ch h (fun aq h=>?_) fun aq h=>?_
 · refine go ?_;cases h;exact fi ah
 refine go ?_;obtain ⟨R,ac,C⟩:=ob h;refine CW.mono (CW.lx [0] [] [] 0 (fun ak=>[(3,vI ak)]) (RT Tryz.prog Tryz.f98.results (fun u=>.bool u) w0 []) ah ac (hb:=?_)) ?_
 · intro ak e b5 o i h;refine go ?_;refine ch h (fun ar h=>?_) fun ar h=>?_
   · refine gs ?_;refine CW.block ?_;refine gs ?_;obtain ⟨aY,aB,aS⟩:=ob h;refine CW.jn [0,3] [] [(73,.bool aY)] i (h1:=?_) (h2:=?_)
     · have h:=aB;refine gb h fun ca aL h=>?_;obtain ⟨bK,b1,bb,rfl,a,n,p,⟨bB,bR,bC,bS,bD,bT,rfl,aH,aI,aJ⟩,m⟩:=c.idx aL;refine ix n p ?_;refine LW.l (Ldr.oldN w0 ag44 rfl rfl (fun j u hu=>m j u hu)) (i.same _ a.1 a.2) rfl ?_;have ⟨cb,aM,h⟩:=ob h;refine LW.c0 (W_s_ObjOk aM rfl (i.rB aH) rfl (i.rB aI) rfl (i.rB aJ)) i fun b6 b=>?_;refine go ?_;rcases bh h with ⟨au,h⟩ | ⟨au,h⟩
       · refine go ?_;cases oi h;exact b.po []
       refine go ?_;refine ix n p ?_;refine go ?_;refine LW.l (Ldr.old w0 ag3 rfl (m 1 _ rfl)) (b.same _ a.1 a.2) rfl ?_;refine go ?_;rcases bh h with ⟨av,h⟩ | ⟨av,h⟩
       · refine go ?_;refine LW.fl [0,3,42,53] fun e=>?_;rcases bh h with ⟨aw,h⟩ | ⟨aw,h⟩
         · refine go ?_;refine ix n p ?_;refine go ?_;refine LW.l (Ldr.old w0 ag3 rfl (m 2 _ rfl)) (b.same _ a.1 a.2) rfl ?_;refine go ?_;rcases bh h with ⟨ax,h⟩ | ⟨ax,h⟩
           · refine go ?_;refine ix n p ?_;refine go ?_;refine LW.l (Ldr.old w0 ag3 rfl (m 2 _ rfl)) (b.same _ a.1 a.2) rfl ?_;have ⟨cc,aN,h⟩:=ob h;obtain ⟨bL,b2,bc,hae,G,aD,aF,aA,aC⟩:=c.idx aN;cases hae;obtain ⟨bE,bU,bF,bV,bG,bW,rfl,bi,bj,bk⟩:=aA;refine go ?_;refine ix aD aF ?_;refine go ?_;refine LW.l (Ldr.old w0 ag3 rfl (aC 1 _ rfl)) (b.same _ G.1 G.2) rfl ?_;refine go ?_;cases oi h;exact b.po []
           refine go ?_;cases oi h;exact b.po []
         refine go ?_;cases oi h;exact b.po []
       refine go ?_;cases oi h;exact b.po []
     intro e b8 ai;have h:=aS;refine go ?_;refine ch h (fun ay h=>?_) fun ay h=>?_
     · refine go ?_;cases oi h;exact ⟨trivial,rfl,_,rfl,⟨_,Res.one (resOne.t rfl),rfl,ai.pk []⟩⟩
     refine go ?_;obtain ⟨O,ab,B⟩:=ob h;refine CW.mono (CW.lx [0,3] [] [0,3] 2 (fun am=>[(4,vI am)]) (RT Tryz.prog Tryz.f98.results (fun u=>.bool u) w0 []) ai ab (hb:=?_)) ?_
     · intro am e b9 o g h;refine gb h fun ce aO h=>?_;obtain ⟨bM,b3,bd,rfl,k,J,L,⟨bH,bX,bI,bY,bJ,bZ,rfl,aK,bl,bm⟩,H⟩:=c.idx aO;refine ix J L ?_;refine go ?_;refine LW.l (Ldr.old w0 ag24 rfl (H 10 _ rfl)) (g.same _ k.1 k.2) rfl ?_;refine go ?_;refine CW.fl [0,3,4,81] fun e=>?_;refine ch h (fun az h=>?_) fun az h=>?_
       · refine go ?_;refine ix J L ?_;refine go ?_;refine LW.l (Ldr.old w0 ag24 rfl (H 10 _ rfl)) (g.same _ k.1 k.2) rfl ?_;refine gb h fun cf aP h=>?_;obtain ⟨bN,bo,aZ,rfl,s,aE,aG,rfl,Y⟩:=aK.idx aP;refine ix aE aG ?_;refine LW.l (Ldr.old w0 ag3 rfl (Y 0 _ rfl)) (g.same _ s.1 s.2) rfl ?_;refine gs ?_;obtain ⟨aQ,X,an⟩:=ob h;refine CW.jn [0,3,4] [] [(101,.bool aQ)] g (h1:=?_) (h2:=?_)
         · have h:=X;refine go ?_;rcases bh h with ⟨U,h⟩ | ⟨U,h⟩
           · refine gb h fun bv af h=>?_;obtain ⟨a7,bp,a0,hae,y,ad,ae,W,Z⟩:=c.idx af;cases hae;obtain ⟨a4,a8,a5,a9,a6,ba,rfl,a1,a2,a3⟩:=W;refine go ?_;refine ix ad ae ?_;refine go ?_;refine LW.l (Ldr.old w0 ag3 rfl (Z 1 _ rfl)) (g.same _ y.1 y.2) rfl ?_;refine go ?_;cases oi h;exact g.po []
           refine go ?_;cases oi h;exact g.po []
         intro e bs aj;have h:=an;refine go ?_;refine ch h (fun V h=>?_) fun V h=>?_
         · refine go ?_;cases oi h;exact ⟨trivial,rfl,_,rfl,⟨_,Res.one (resOne.t rfl),rfl,aj.pk []⟩⟩
         refine go ?_;cases oi h;exact ⟨rfl,(aj.po [])⟩
       refine go ?_;cases oi h;exact ⟨trivial,rfl,(g.po [])⟩
     intro x e bt hM;rcases O with O | bq
     · obtain ⟨rfl,hM⟩:=hM;obtain ⟨hE,aT⟩:=hM;obtain ⟨e,rfl⟩:=hE.out;have h:=B;refine go ?_;cases oi h;exact ⟨rfl,(aT.po [])⟩
     obtain ⟨rfl,u,rfl,hM⟩:=hM;cases B;exact ⟨trivial,rfl,_,rfl,hM⟩
   refine go ?_;cases oi h;exact ⟨trivial,rfl,⟨trivial,i.pk []⟩⟩
 intro x e bu hM;rcases R with R | br
 · obtain ⟨rfl,hM⟩:=hM;obtain ⟨hE,aU⟩:=hM;obtain ⟨e,rfl⟩:=hE.out;rw [show e=upds e [] from rfl];have h:=C;refine go ?_;cases h;exact fi aU
 obtain ⟨rfl,u,rfl,hM⟩:=hM;cases C;exact And.intro trivial hM
theorem W_s_AmtFits {w0 N b c r} (h:F_s_AmtFits N b c=some r) :
    Ret Tryz.prog 313 #[.agg #[vI b.pages,vI b.rent,vI b.cpu],.agg #[vI c.pages,vI c.rent,vI c.cpu]] w0 (fun v w=>v=.bool r∧St w0 [] w []):=by
 unfold F_s_AmtFits at h;refine Ret.fn Tryz.func313 fun e=>?_;have j:=St.start w0;refine go ?_;refine LW.bo j fun p s k=>?_;refine LW.bo k fun q t l=>?_;refine gb h fun y n h=>?_;refine LW.c0 (W_s_AmtOk n) l fun u d=>?_;refine go ?_;rcases bh h with ⟨m,h⟩ | ⟨m,h⟩
 · refine gb h fun z o h=>?_;refine go ?_;refine LW.c0 (W_s_AmtOk o) d fun x a=>?_;refine go ?_;rcases bh h with ⟨f,h⟩ | ⟨f,h⟩
   · refine go ?_;rcases bh h with ⟨g,h⟩ | ⟨g,h⟩
     · refine go ?_;refine LW.fl [2,3,25] fun e=>?_;rcases bh h with ⟨i,h⟩ | ⟨i,h⟩
       · refine go ?_;cases h;exact fi a
       refine go ?_;cases h;exact fi a
     refine go ?_;cases h;exact fi a
   refine go ?_;cases h;exact fi a
 refine go ?_;cases h;exact fi d
theorem W_s_AmtAdd {w0 N a c r} (h:F_s_AmtAdd N a c=some r) :
    Ret Tryz.prog 86 #[.agg #[vI a.pages,vI a.rent,vI a.cpu],.agg #[vI c.pages,vI c.rent,vI c.cpu]] w0 (fun v w=>v=.tuple #[.agg #[vI r.1.pages,vI r.1.rent,vI r.1.cpu],.bool r.2]∧St w0 [] w []):=by
 unfold F_s_AmtAdd at h;refine Ret.fn Tryz.func86 fun e=>?_;have x:=St.start w0;refine go ?_;refine LW.bo x fun aa ad y=>?_;refine LW.bo y fun ab ae z=>?_;refine LW.al z fun ac af i=>?_;refine gs ?_;obtain ⟨I,C,H⟩:=ob h;refine CW.jn [2,3,4] [0,1,2] [(14,.bool I)] i (h1:=?_) (h2:=?_)
 · have h:=C;refine gb h fun ah G h=>?_;refine LW.c0 (W_s_AmtOk G) i fun K j=>?_;refine go ?_;rcases bh h with ⟨n,h⟩ | ⟨n,h⟩
   · refine go ?_;cases oi h;exact j.po [0,1,2]
   refine gb h fun Y q h=>?_;refine go ?_;refine LW.c0 (W_s_AmtOk q) j fun L A=>?_;refine go ?_;cases oi h;exact A.po [0,1,2]
 intro e M k;have h:=H;refine go ?_;refine ch h (fun o h=>?_) fun o h=>?_
 · refine go ?_;refine LW.st k 0 fun O l=>?_;refine go ?_;cases h;exact And.intro trivial ⟨_,Res.two (resOne.b l 0 rfl ag35 rfl rfl) (resOne.t rfl),rfl,l.pk []⟩
 refine go ?_;refine LW.u (Pur.build (vs:=[(0,vI (IntKind.i64.wrap (a.pages+c.pages))),(1,vI (IntKind.i64.wrap (a.rent+c.rent))),(2,vI (IntKind.i64.wrap (a.cpu+c.cpu)))]) (cs:=#[vI (IntKind.i64.wrap (a.pages+c.pages)),vI (IntKind.i64.wrap (a.rent+c.rent)),vI (IntKind.i64.wrap (a.cpu+c.cpu))]) rfl (by kernel_rfl)) rfl ?_;refine LW.al k fun J R B=>?_;refine LW.st B 0 fun U m=>?_;refine gb h fun Z s h=>?_;refine LW.c0 (W_s_AmtOk s) m fun V d=>?_;refine go ?_;refine CW.fl [2,4,6,34] fun e=>?_;refine ch h (fun p h=>?_) fun p h=>?_
 · refine go ?_;refine LW.st d 1 fun W f=>?_;refine go ?_;cases h;exact And.intro trivial ⟨_,Res.two (resOne.b f 1 rfl ag35 rfl rfl) (resOne.t rfl),rfl,f.pk []⟩
 refine go ?_;refine LW.st d 1 fun X g=>?_;refine go ?_;cases h;exact And.intro trivial ⟨_,Res.two (resOne.b g 1 rfl ag35 rfl rfl) (resOne.t rfl),rfl,g.pk []⟩
theorem W_i_copyHeap {w0 N a r} (h:F_i_copyHeap N a=some r) {k I l} (K:I=a.arena.length) (t:rb w0 k l a.arena) {d J f} (L:J=a.gc.grey.length) (M:rb w0 d f a.gc.grey) :
    Ret Tryz.prog 148 #[.agg #[vS k I l,vI a.gc.phase,vI a.gc.pos,vI a.gc.round,vS d J f]] w0 (fun v w=>∃ n p, ∃ o q,v=.agg #[vS n r.arena.length p,vI r.gc.phase,vI r.gc.pos,vI r.gc.round,vS o r.gc.grey.length q]∧St w0 [] w [sl n p r.arena,sl o q r.gc.grey]):=by
 subst K L;unfold F_i_copyHeap at h;refine Ret.fn Tryz.func148 fun e=>?_;have ah:=St.start w0;refine go ?_;refine LW.bo ah fun ac aC ai=>?_;refine LW.al ai fun af aD aj=>?_;refine gs ?_;obtain ⟨an,am,ao⟩:=ob h;refine CW.cut (fun e wb=>∃ (m:Nat) (g:Ad) (j:Nat),En e [(1,.pointer (some ⟨ac,0,none⟩)),(2,.pointer (some ⟨af,0,none⟩)),(3,.pointer (some ⟨m,0,none⟩))]∧St w0 [] wb [bx af 32 [vS none 0 0,vI 0,vI 0,vI 0,vS none 0 0],bx ac 32 [vS k a.arena.length l,vI a.gc.phase,vI a.gc.pos,vI a.gc.round,vS d a.gc.grey.length f],bx m 32 [vS g an.length j,vI a.gc.phase,vI a.gc.pos,vI a.gc.round,vS d a.gc.grey.length f],sl g j an]) ?_ ?_
 · have h:=am;refine CW.draw (by kernel_rfl) ?_;have G:=aj.drew;refine gb h fun O V h=>?_;refine AW.all (rs:=[2,6]) (by kernel_rfl) (by simp) ⟨?_,?_,trivial⟩
   · refine ⟨_,rfl,?_⟩;refine LW.cl (W_i_copyArena V rfl (G.rB t)) ?_;rintro _ ap ⟨x,z,rfl,hs⟩;have R:=G.add hs;refine jN (.c (R.ce 2) (jW jZ)) ?_;refine AW.u (i:=5) rfl (by kernel_rfl) rfl rfl (Pur.build (vs:=[(0,vS x O.length z),(1,.agg #[vI a.gc.phase,vI a.gc.pos,vI a.gc.round,vS d a.gc.grey.length f])]) (cs:=#[vS x O.length z,vI a.gc.phase,vI a.gc.pos,vI a.gc.round,vS d a.gc.grey.length f]) rfl (by kernel_rfl)) ?_;refine jO 6 ?_;refine LW.al R fun ad aq H=>?_;refine jN (.c (H.ce 3) (.c (H.ce 3) jZ)) ?_;refine jO 7 ?_;refine LW.st H 0 fun ar ak=>?_;refine jN (jW (jW jZ)) ?_;refine go ?_;cases oi h;exact ⟨ad,x,z,ak.po [2,3,0,1]⟩
   refine ⟨_,rfl,?_⟩;refine LW.al G fun ae au s=>?_;refine jN (.c (s.ce 2) (.c (s.ce 2) jZ)) ?_;refine jO 2 ?_;refine LW.cl (W_i_copyArena V rfl (s.rB t)) ?_;rintro _ av ⟨y,A,rfl,hs⟩;have U:=s.add hs;refine jN (.c (U.ce 3) (jW jZ)) ?_;refine AW.u (i:=5) rfl (by kernel_rfl) rfl rfl (Pur.build (vs:=[(0,vS y O.length A),(1,.agg #[vI a.gc.phase,vI a.gc.pos,vI a.gc.round,vS d a.gc.grey.length f])]) (cs:=#[vS y O.length A,vI a.gc.phase,vI a.gc.pos,vI a.gc.round,vS d a.gc.grey.length f]) rfl (by kernel_rfl)) ?_;refine jO 7 ?_;refine LW.st U 1 fun aw W=>?_;refine jN (jW (jW jZ)) ?_;refine go ?_;cases oi h;exact ⟨ae,y,A,W.po [2,3,1,0]⟩
 rintro e ax ⟨m,g,j,hE,B⟩;obtain ⟨e,rfl⟩:=hE.out;have h:=ao;refine gb h fun aB Z h=>?_;refine LW.cl (W_i_copyInts Z rfl (B.rB M)) ?_;rintro _ ay ⟨aa,ab,rfl,hs⟩;have X:=B.add hs;refine go ?_;refine LW.st X 3 fun az Y=>?_;refine go ?_;refine LW.st Y 1 fun aA C=>?_;refine go ?_;cases h;exact And.intro trivial ⟨_,Res.one (resOne.b C 1 rfl ag32 rfl rfl),g,j,aa,ab,rfl,C.pk [4,0]⟩
theorem W_i_leadsUp {w0 N y K r} (h:F_i_leadsUp N y K=some r) {c i d} (j:i=y.length) (b:rb w0 c d y) :
    Ret Tryz.prog 222 #[vS c i d,vI K] w0 (fun v w=>v=.bool r∧St w0 [] w []):=by
 subst j;unfold F_i_leadsUp at h;refine Ret.fn Tryz.func222 fun e=>?_;have z:=St.start w0;refine go ?_;obtain ⟨m,p,k⟩:=ob h;refine CW.mono (CW.lx [0] [] [] 0 (fun s=>[(1,vI s.1),(5,vI s.2)]) (RT Tryz.prog Tryz.f222.results (fun u=>.bool u) w0 []) z p (hb:=?_)) ?_
 · intro s e V o a h;refine go ?_;refine ch h (fun B h=>?_) fun B h=>?_
   · refine go ?_;refine ch h (fun C h=>?_) fun C h=>?_
     · refine go ?_;cases oi h;exact ⟨trivial,rfl,_,rfl,⟨_,Res.one (resOne.t rfl),rfl,a.pk []⟩⟩
     refine gb h fun X I h=>?_;refine LW.c0 (W_i_isLive I rfl (a.rB b)) a fun W f=>?_;refine go ?_;refine ch h (fun G h=>?_) fun G h=>?_
     · refine go ?_;cases oi h;exact ⟨trivial,rfl,_,rfl,⟨_,Res.one (resOne.t rfl),rfl,f.pk []⟩⟩
     refine gb h fun Y J h=>?_;obtain ⟨M,O,L,rfl,g,H,q,rfl,n⟩:=b.idx J;refine ix H q ?_;refine go ?_;refine LW.l (Ldr.old w0 ag3 rfl (n 1 _ rfl)) (f.same _ g.1 g.2) rfl ?_;refine go ?_;cases oi h;exact ⟨rfl,(f.po [])⟩
   refine go ?_;cases oi h;exact ⟨trivial,rfl,⟨trivial,a.pk []⟩⟩
 intro x e U hM;rcases m with m | R
 · obtain ⟨rfl,hM⟩:=hM;obtain ⟨hE,A⟩:=hM;obtain ⟨e,rfl⟩:=hE.out;rw [show e=upds e [] from rfl];have h:=k;refine go ?_;cases h;exact fi A
 obtain ⟨rfl,u,rfl,hM⟩:=hM;cases k;exact And.intro trivial hM
theorem W_i_ObjOk {w0 N a r} (h:F_i_ObjOk N a=some r) {k q n} (A:q=a.links.length) (g:rb w0 k n a.links) {l s o} (B:s=a.data.length) (i:rb w0 l o a.data) {m t p} (C:t=a.queue.length) (j:rb w0 m p a.queue) :
    Ret Tryz.prog 283 #[.agg #[vI a.gen,vI a.kind,vI a.box,vI a.res,vI a.til,vI a.pages,vI a.wait,vI a.got,vI a.ran,.bool a.mark,vS k q n,vS l s o,vS m t p]] w0 (fun v w=>v=.bool r∧St w0 [] w []):=by
 subst A B C;unfold F_i_ObjOk at h;refine Ret.fn Tryz.func283 fun e=>?_;have aB:=St.start w0;refine go ?_;refine LW.bo aB fun ba bb G=>?_;refine gs ?_;obtain ⟨aL,aF,aK⟩:=ob h;refine CW.jn [1] [0] [(12,.bool aL)] G (h1:=?_) (h2:=?_)
 · have h:=aF;refine gb h fun be aG h=>?_;refine LW.c0 (W_i_within aG) G fun bc H=>?_;refine go ?_;rcases bh h with ⟨aE,h⟩ | ⟨aE,h⟩
   · refine go ?_;cases oi h;exact H.po [0]
   refine gb h fun bf aH h=>?_;refine go ?_;refine LW.c0 (W_i_within aH) H fun bd aC=>?_;refine go ?_;cases oi h;exact aC.po [0]
 intro e f d;have h:=aK;refine go ?_;refine ch h (fun U h=>?_) fun U h=>?_
 · refine go ?_;cases h;exact fi d
 refine go ?_;refine ch h (fun V h=>?_) fun V h=>?_
 · refine go ?_;refine LW.u (Pur.build (vs:=[(0,vI a.gen)]) (cs:=#[vI a.gen,vI 0,vI 0,vI 0,vI 0,vI 0,vI 0,vI 0,vI 0,.bool false,vS none 0 0,vS none 0 0,vS none 0 0]) rfl (by kernel_rfl)) rfl ?_;have ⟨aZ,am,h⟩:=ob h;refine LW.c0 (W_i_sameObj am rfl (d.rB g) rfl (d.rB i) rfl (d.rB j) rfl (show rdS (α:=Int) (Bor f []) f none 0 [] from rdS.nil _ _ _ _ (Nat.zero_le _)) rfl (show rdS (α:=Int) (Bor f []) f none 0 [] from rdS.nil _ _ _ _ (Nat.zero_le _)) rfl (show rdS (α:=DMsg) (Bor f []) f none 0 [] from rdS.nil _ _ _ _ (Nat.zero_le _))) d fun aM aD=>?_;refine go ?_;cases h;exact fi aD
 refine gs ?_;obtain ⟨aI,aj,az⟩:=ob h;refine CW.jn [1] [0] [(47,.bool aI)] d (h1:=?_) (h2:=?_)
 · have h:=aj;refine gb h fun a0 an h=>?_;refine LW.c0 (W_i_within an) d fun aN I=>?_;refine go ?_;rcases bh h with ⟨W,h⟩ | ⟨W,h⟩
   · refine go ?_;cases oi h;exact I.po [0]
   refine gb h fun a1 ao h=>?_;refine go ?_;refine LW.c0 (W_i_isPlace ao) I fun aO J=>?_;refine go ?_;rcases bh h with ⟨X,h⟩ | ⟨X,h⟩
   · refine go ?_;cases oi h;exact J.po [0]
   refine gb h fun a2 ap h=>?_;refine go ?_;refine LW.c0 (W_i_isTime ap) J fun aP K=>?_;refine go ?_;rcases bh h with ⟨Y,h⟩ | ⟨Y,h⟩
   · refine go ?_;cases oi h;exact K.po [0]
   refine go ?_;refine LW.fl [1,37,39] fun e=>?_;have ⟨a3,aq,h⟩:=ob h;refine go ?_;refine LW.c0 (W_i_within aq) K fun aQ c=>?_;refine go ?_;rcases bh h with ⟨Z,h⟩ | ⟨Z,h⟩
   · refine go ?_;cases oi h;exact c.po [0]
   refine gb h fun a4 ar h=>?_;refine go ?_;refine LW.c0 (W_i_listsOk ar rfl (c.rB g) rfl (c.rB i) rfl (c.rB j)) c fun aR L=>?_;refine go ?_;cases oi h;exact L.po [0]
 intro e aS b;have h:=az;refine go ?_;refine ch h (fun aa h=>?_) fun aa h=>?_
 · refine go ?_;cases h;exact fi b
 refine go ?_;refine ch h (fun ab h=>?_) fun ab h=>?_
 · refine gs ?_;obtain ⟨aJ,ak,aA⟩:=ob h;refine CW.jn [] [] [(2,.bool aJ)] b (h1:=?_) (h2:=?_)
   · have h:=ak;refine go ?_;rcases bh h with ⟨ac,h⟩ | ⟨ac,h⟩
     · refine go ?_;rcases bh h with ⟨ad,h⟩ | ⟨ad,h⟩
       · refine go ?_;cases oi h;exact b.po []
       refine go ?_;cases oi h;exact b.po []
     refine go ?_;cases oi h;exact b.po []
   intro e aT M;have h:=aA;refine go ?_;cases h;exact fi M
 refine go ?_;rcases bh h with ⟨ae,h⟩ | ⟨ae,h⟩
 · refine gb h fun a5 au h=>?_;refine go ?_;refine LW.c0 (W_i_within au) b fun aU x=>?_;refine go ?_;rcases bh h with ⟨af,h⟩ | ⟨af,h⟩
   · refine go ?_;refine LW.fl [78,80] fun e=>?_;have ⟨a6,av,h⟩:=ob h;refine go ?_;refine LW.c0 (W_i_isTime av) x fun aV O=>?_;refine go ?_;cases h;exact fi O
   refine go ?_;cases h;exact fi x
 refine gb h fun a7 aw h=>?_;refine go ?_;refine LW.c0 (W_i_isHandle aw) b fun aW y=>?_;refine go ?_;rcases bh h with ⟨ah,h⟩ | ⟨ah,h⟩
 · refine gb h fun a8 ax h=>?_;refine go ?_;refine LW.c0 (W_i_within ax) y fun aX z=>?_;refine go ?_;refine LW.fl [1,78] fun e=>?_;rcases bh h with ⟨ai,h⟩ | ⟨ai,h⟩
   · refine gb h fun a9 ay h=>?_;refine go ?_;refine LW.c0 (W_i_isTime ay) z fun aY R=>?_;refine go ?_;cases h;exact fi R
   refine go ?_;cases h;exact fi z
 refine go ?_;cases h;exact fi y
theorem W_s_HeapOk {w0 N k r} (h:F_s_HeapOk N k=some r) {n K q} (O:K=k.arena.length) (U:rb w0 n q k.arena) {p L s} (R:L=k.gc.grey.length) (j:rb w0 p s k.gc.grey) :
    Ret Tryz.prog 78 #[.agg #[vS n K q,vI k.gc.phase,vI k.gc.pos,vI k.gc.round,vS p L s]] w0 (fun v w=>v=.bool r∧St w0 [] w []):=by
 subst O R;unfold F_s_HeapOk at h;refine Ret.fn Tryz.func78 fun e=>?_;have aH:=St.start w0;refine go ?_;refine LW.bo aH fun bg bj aI=>?_;refine go ?_;refine LW.al aI fun bi bk aJ=>?_;refine LW.st aJ 0 fun bl C=>?_;refine gs ?_;obtain ⟨aR,aL,aQ⟩:=ob h;refine CW.jn [3] [0] [(22,.bool aR)] C (h1:=?_) (h2:=?_)
 · have h:=aL;refine gb h fun bn aM h=>?_;refine LW.c0 (W_s_ArenaOk aM rfl (C.rB U)) C fun bm W=>?_;refine go ?_;rcases bh h with ⟨ac,h⟩ | ⟨ac,h⟩
   · refine go ?_;cases oi h;exact W.po [0]
   refine gb h fun a8 ay h=>?_;refine go ?_;refine LW.c0 (W_s_l1In ay) W fun aX X=>?_;refine go ?_;rcases bh h with ⟨ad,h⟩ | ⟨ad,h⟩
   · refine go ?_;cases oi h;exact X.po [0]
   refine gb h fun a9 az h=>?_;refine go ?_;refine LW.c0 (W_s_l1In az) X fun aY aK=>?_;refine go ?_;cases oi h;exact aK.po [0]
 intro e aZ f;have h:=aQ;refine go ?_;refine ch h (fun ae h=>?_) fun ae h=>?_
 · refine go ?_;cases h;exact fi f
 refine gs ?_;obtain ⟨aN,au,aF⟩:=ob h;refine CW.jn [3] [0] [(47,.bool aN)] f (h1:=?_) (h2:=?_)
 · have h:=au;refine go ?_;rcases bh h with ⟨af,h⟩ | ⟨af,h⟩
   · refine go ?_;rcases bh h with ⟨ah,h⟩ | ⟨ah,h⟩
     · refine go ?_;cases oi h;exact f.po [0]
     refine go ?_;rcases bh h with ⟨ai,h⟩ | ⟨ai,h⟩
     · refine gb h fun ba aA h=>?_;refine go ?_;refine LW.c0 (W_s_l8Slot aA) f fun a0 Y=>?_;refine go ?_;refine LW.fl [3,31,35,40] fun e=>?_;rcases bh h with ⟨aj,h⟩ | ⟨aj,h⟩
       · refine go ?_;cases oi h;exact Y.po [0]
       refine go ?_;cases oi h;exact Y.po [0]
     refine go ?_;cases oi h;exact f.po [0]
   refine go ?_;rcases bh h with ⟨ak,h⟩ | ⟨ak,h⟩
   · refine gb h fun bb aB h=>?_;refine go ?_;refine LW.c0 (W_s_l8Slot aB) f fun a1 y=>?_;refine go ?_;refine LW.fl [3,31,35,40] fun e=>?_;rcases bh h with ⟨am,h⟩ | ⟨am,h⟩
     · refine go ?_;cases oi h;exact y.po [0]
     refine go ?_;cases oi h;exact y.po [0]
   refine go ?_;cases oi h;exact f.po [0]
 intro e a2 z;have h:=aF;refine go ?_;refine ch h (fun an h=>?_) fun an h=>?_
 · refine go ?_;cases h;exact fi z
 refine go ?_;obtain ⟨Z,aw,V⟩:=ob h;refine CW.mono (CW.lx [3] [0] [] 0 (fun aa=>[(4,vI aa)]) (RT Tryz.prog Tryz.f78.results (fun u=>.bool u) w0 []) z aw (hb:=?_)) ?_
 · intro aa e a3 o m h;refine go ?_;refine ch h (fun ao h=>?_) fun ao h=>?_
   · refine gs ?_;refine CW.block ?_;refine gs ?_;obtain ⟨aO,av,aG⟩:=ob h;refine CW.jn [3,4] [0] [(73,.bool aO)] m (h1:=?_) (h2:=?_)
     · have h:=av;refine CW.draw (by kernel_rfl) ?_;have A:=m.drew;refine gb h fun bc aC h=>?_;obtain ⟨aT,aV,aP,rfl,a,H,I,rfl,G⟩:=j.idx aC;refine AW.u (i:=3) rfl (by kernel_rfl) rfl rfl (Pur.ix Tryz.underlying24 sz3 rfl rfl H I) ?_;refine AW.take (i:=4) rfl (by kernel_rfl) rfl rfl (Ldr.old w0 ag3 rfl (G 0 _ rfl)) (A.same _ a.1 a.2) ?_;have ⟨bd,aD,h⟩:=ob h;refine jO 5 ?_;refine LW.cl (W_s_l8Slot aD) ?_;rintro _ a4 ⟨rfl,hs⟩;have b:=A.add hs;refine jN (jW (.c (b.ce 0) jZ)) ?_;refine go ?_;rcases bh h with ⟨g,h⟩ | ⟨g,h⟩
       · refine go ?_;cases oi h;exact b.po [0]
       refine gb h fun be J h=>?_;obtain ⟨aS,aU,aq,ar,ax⟩:=rdS.sub' j J;have M:=(j).le;refine AW.u (i:=11) rfl (by kernel_rfl) (want_of rfl rfl g) rfl (Pur.sub (α:=Int) (l:=k.gc.grey) Tryz.underlying24 sz3 rfl bndN (bndS rfl) J M aq ar) ?_;refine go ?_;refine AW.u (i:=15) rfl (by kernel_rfl) (want_of rfl rfl g) rfl (Pur.ix Tryz.underlying24 sz3 rfl rfl H I) ?_;refine AW.take (i:=16) rfl (by kernel_rfl) (want_of rfl rfl g) rfl (Ldr.old w0 ag3 rfl (G 0 _ rfl)) (b.same _ a.1 a.2) ?_;have ⟨bf,aE,h⟩:=ob h;refine jO 17 ?_;refine (LW.gY (want_of rfl rfl g) ?_);refine LW.cl (W_s_l4Has aE rfl (b.rB ax)) ?_;rintro _ a5 ⟨rfl,hs⟩;have d:=b.add hs;refine jN (jW (.c (d.ce 0) (.c (d.ce 0) (.c (d.same _ a.1 a.2) (.c (d.ce 0) jZ))))) ?_;refine go ?_;cases oi h;exact d.po [0]
     intro e a6 B;have h:=aG;refine go ?_;refine ch h (fun ap h=>?_) fun ap h=>?_
     · refine go ?_;cases oi h;exact ⟨trivial,rfl,_,rfl,⟨_,Res.one (resOne.t rfl),rfl,B.pk []⟩⟩
     refine go ?_;cases oi h;exact ⟨rfl,(B.po [0])⟩
   refine go ?_;cases oi h;exact ⟨trivial,rfl,⟨trivial,m.pk [0]⟩⟩
 intro x e a7 hM;rcases Z with Z | aW
 · obtain ⟨rfl,hM⟩:=hM;obtain ⟨hE,ab⟩:=hM;obtain ⟨e,rfl⟩:=hE.out;rw [show e=upds e [] from rfl];have h:=V;refine go ?_;cases h;exact fi ab
 obtain ⟨rfl,u,rfl,hM⟩:=hM;cases V;exact And.intro trivial hM
end Go.Kx
