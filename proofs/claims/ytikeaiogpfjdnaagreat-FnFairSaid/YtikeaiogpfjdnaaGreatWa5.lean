/- Each call returns what the plain function says. Printed by drive.py. -/
import Derived.Test.YtikeaiogpfjdnaaGreatFa
import Derived.Test.YtikeaiogpfjdnaaGreatPu
import Derived.Test.YtikeaiogpfjdnaaGreatWa4
namespace Go.Kx
open Go Go.RowKit Go.Proofs
set_option maxRecDepth 10000
set_option maxHeartbeats 8000000
set_option linter.unusedVariables false
set_option linter.unusedSimpArgs false
theorem W_i_OwnOk {w0 N L r} (h:F_i_OwnOk N L=some r) {d j f} (k:j=L.length) (c:rb w0 d f L) :
    Ret Tryz.prog 151 #[vS d j f] w0 (fun v w=>v=.bool r∧St w0 [] w []):=by
 subst k;unfold F_i_OwnOk at h;refine Ret.fn Tryz.func151 fun e=>?_;have O:=St.start w0;refine go ?_;obtain ⟨p,G,m⟩:=ob h;refine CW.mono (CW.lx [0,5,6] [] [] 0 (fun Z=>[(7,vI Z)]) (RT Tryz.prog Tryz.f151.results (fun u=>.bool u) w0 []) O G (hb:=?_)) ?_
 · intro Z e ao o a h;refine go ?_;refine ch h (fun U h=>?_) fun U h=>?_
   · refine gb h fun ap X h=>?_;obtain ⟨am,an,ac,rfl,g,V,W,rfl,B⟩:=c.idx X;refine ix V W ?_;refine LW.l (Ldr.old w0 ag3 rfl (B 0 _ rfl)) (a.same _ g.1 g.2) rfl ?_;refine gs ?_;obtain ⟨Y,A,M⟩:=ob h;refine CW.jn [0,5,6,7] [] [(27,.bool Y)] a (h1:=?_) (h2:=?_)
     · have h:=A;refine gb h fun aj J h=>?_;refine LW.c0 (W_i_within J) a fun af b=>?_;refine go ?_;rcases bh h with ⟨q,h⟩ | ⟨q,h⟩
       · refine go ?_;cases oi h;exact b.po []
       refine go ?_;rcases bh h with ⟨s,h⟩ | ⟨s,h⟩
       · refine gb h fun ak K h=>?_;obtain ⟨ab,ad,aa,hae,i,H,I,z,C⟩:=c.idx K;cases hae;obtain rfl:=z;refine go ?_;refine ix H I ?_;refine LW.fl [0,4,5,6,7,15,18,22] fun e=>?_;refine go ?_;refine LW.l (Ldr.old w0 ag3 rfl (C 0 _ rfl)) (b.same _ i.1 i.2) rfl ?_;refine go ?_;cases oi h;exact b.po []
       refine go ?_;cases oi h;exact b.po []
     intro e ah n;have h:=M;refine go ?_;refine ch h (fun y h=>?_) fun y h=>?_
     · refine go ?_;cases oi h;exact ⟨trivial,rfl,_,rfl,⟨_,Res.one (resOne.t rfl),rfl,n.pk []⟩⟩
     refine go ?_;cases oi h;exact ⟨rfl,(n.po [])⟩
   refine go ?_;cases oi h;exact ⟨trivial,rfl,⟨trivial,a.pk []⟩⟩
 intro x e ai hM;rcases p with p | ae
 · obtain ⟨rfl,hM⟩:=hM;obtain ⟨hE,R⟩:=hM;obtain ⟨e,rfl⟩:=hE.out;rw [show e=upds e [] from rfl];have h:=m;refine go ?_;cases h;exact fi R
 obtain ⟨rfl,u,rfl,hM⟩:=hM;cases m;exact And.intro trivial hM
theorem W_i_isAmount {w0 N d r} (h:F_i_isAmount N d=some r) :
    Ret Tryz.prog 224 #[vI d] w0 (fun v w=>v=.bool r∧St w0 [] w []):=by
 unfold F_i_isAmount at h;refine Ret.fn Tryz.func224 fun e=>?_;have a:=St.start w0;refine gb h fun g c h=>?_;refine LW.c0 (W_i_within c) a fun f b=>?_;refine go ?_;cases h;exact fi b
theorem W_i_isSlot {w0 N d r} (h:F_i_isSlot N d=some r) :
    Ret Tryz.prog 154 #[vI d] w0 (fun v w=>v=.bool r∧St w0 [] w []):=by
 unfold F_i_isSlot at h;refine Ret.fn Tryz.func154 fun e=>?_;have a:=St.start w0;refine gb h fun g c h=>?_;refine LW.c0 (W_i_within c) a fun f b=>?_;refine go ?_;cases h;exact fi b
theorem W_z_Contains_int {w0 N i l r} (h:F_z_Contains_int N i l=some r) {a c b} (d:c=i.length) (f:rb w0 a b i) :
    Ret Tryz.prog 183 #[vS a c b,vI l] w0 (fun v w=>v=.bool r∧St w0 [] w []):=by
 subst d;unfold F_z_Contains_int at h;refine Ret.fn Tryz.func183 fun e=>?_;have g:=St.start w0;refine gb h fun n k h=>?_;refine LW.c0 (W_z_Index_int k rfl (g.rB f)) g fun m j=>?_;refine go ?_;cases h;exact fi j
theorem W_i_sameObj {w0 N b c r} (h:F_i_sameObj N b c=some r) {d x l} (G:x=b.links.length) (M:rb w0 d l b.links) {f y m} (H:y=b.data.length) (O:rb w0 f m b.data) {g z n} (I:z=b.queue.length) (R:rb w0 g n b.queue) {i A o} (J:A=c.links.length) (U:rb w0 i o c.links) {j B p} (K:B=c.data.length) (V:rb w0 j p c.data) {k C q} (L:C=c.queue.length) (W:rb w0 k q c.queue) :
    Ret Tryz.prog 306 #[.agg #[vI b.gen,vI b.kind,vI b.box,vI b.res,vI b.til,vI b.pages,vI b.wait,vI b.got,vI b.ran,.bool b.mark,vS d x l,vS f y m,vS g z n],.agg #[vI c.gen,vI c.kind,vI c.box,vI c.res,vI c.til,vI c.pages,vI c.wait,vI c.got,vI c.ran,.bool c.mark,vS i A o,vS j B p,vS k C q]] w0 (fun v w=>v=.bool r∧St w0 [] w []):=by
 subst G H I J K L;unfold F_i_sameObj at h;refine Ret.fn Tryz.func306 fun e=>?_;have ai:=St.start w0;refine go ?_;refine LW.bo ai fun az aB aj=>?_;refine LW.bo aj fun aA aC a=>?_;refine go ?_;rcases bh h with ⟨am,h⟩ | ⟨am,h⟩
 · refine go ?_;rcases bh h with ⟨an,h⟩ | ⟨an,h⟩
   · refine go ?_;refine LW.fl [2,3,24] fun e=>?_;rcases bh h with ⟨ao,h⟩ | ⟨ao,h⟩
     · refine go ?_;rcases bh h with ⟨ap,h⟩ | ⟨ap,h⟩
       · refine go ?_;rcases bh h with ⟨aq,h⟩ | ⟨aq,h⟩
         · refine go ?_;rcases bh h with ⟨X,h⟩ | ⟨X,h⟩
           · refine go ?_;refine LW.fl [2,3,52] fun e=>?_;rcases bh h with ⟨Y,h⟩ | ⟨Y,h⟩
             · refine go ?_;rcases bh h with ⟨Z,h⟩ | ⟨Z,h⟩
               · refine go ?_;rcases bh h with ⟨aa,h⟩ | ⟨aa,h⟩
                 · refine go ?_;refine LW.u (Pur.beq Tryz.underlying4 rfl rfl) rfl ?_;refine go ?_;rcases bh h with ⟨ab,h⟩ | ⟨ab,h⟩
                   · refine go ?_;refine LW.fl [2,3,73,75,77] fun e=>?_;have ⟨aw,ae,h⟩:=ob h;refine go ?_;refine LW.c0 (W_z_Equal_int ae rfl (a.rB M) rfl (a.rB U)) a fun ar s=>?_;refine go ?_;rcases bh h with ⟨ac,h⟩ | ⟨ac,h⟩
                     · refine gb h fun ax af h=>?_;refine go ?_;refine LW.c0 (W_z_Equal_int af rfl (s.rB O) rfl (s.rB V)) s fun au t=>?_;refine go ?_;rcases bh h with ⟨ad,h⟩ | ⟨ad,h⟩
                       · refine gb h fun ay ah h=>?_;refine go ?_;refine LW.c0 (W_z_Equal_Msg ah rfl (t.rB R) rfl (t.rB W)) t fun av ak=>?_;refine go ?_;cases h;exact fi ak
                       refine go ?_;cases h;exact fi t
                     refine go ?_;cases h;exact fi s
                   refine go ?_;cases h;exact fi a
                 refine go ?_;cases h;exact fi a
               refine go ?_;cases h;exact fi a
             refine go ?_;cases h;exact fi a
           refine go ?_;cases h;exact fi a
         refine go ?_;cases h;exact fi a
       refine go ?_;cases h;exact fi a
     refine go ?_;cases h;exact fi a
   refine go ?_;cases h;exact fi a
 refine go ?_;cases h;exact fi a
theorem W_i_isHandle {w0 N d r} (h:F_i_isHandle N d=some r) :
    Ret Tryz.prog 235 #[vI d] w0 (fun v w=>v=.bool r∧St w0 [] w []):=by
 unfold F_i_isHandle at h;refine Ret.fn Tryz.func235 fun e=>?_;have a:=St.start w0;refine gb h fun g c h=>?_;refine LW.c0 (W_i_within c) a fun f b=>?_;refine go ?_;cases h;exact fi b
theorem W_s_l10Copy {w0 N a r} (h:F_s_l10Copy N a=some r) {k A q} (C:A=a.arena.length) (H:rb w0 k q a.arena) {n B s} (G:B=a.gc.grey.length) (I:rb w0 n s a.gc.grey) :
    Ret Tryz.prog 171 #[.agg #[vS k A q,vI a.gc.phase,vI a.gc.pos,vI a.gc.round,vS n B s]] w0 (fun v w=>∃ d g, ∃ f j,v=.agg #[vS d r.arena.length g,vI r.gc.phase,vI r.gc.pos,vI r.gc.round,vS f r.gc.grey.length j]∧St w0 [] w [sl d g r.arena,sl f j r.gc.grey]):=by
 subst C G;unfold F_s_l10Copy at h;refine Ret.fn Tryz.func171 fun e=>?_;have U:=St.start w0;refine go ?_;refine LW.bo U fun aj an V=>?_;refine LW.al V fun ak ao W=>?_;refine go ?_;refine LW.al W fun am ap X=>?_;refine LW.st X 0 fun aq Y=>?_;refine go ?_;refine LW.bsl (α:=Int) (vs:=[]) (cs:=#[]) (l:=([]:List Int)) rfl (by kernel_rfl) rfl rfl rfl (fun w=>rfl) Y rfl ?_;intro ah ai ab J hf;refine gb h fun L O h=>?_;refine LW.appN (l:=([]:List Int)) (m:=a.gc.grey) sT24 rfl rfl (J.rB I) O J (i:=0) rfl rfl ?_;intro o t ac Z hf;refine go ?_;refine LW.st Z 1 fun ad aa=>?_;refine go ?_;refine CW.draw (by kernel_rfl) ?_;have K:=aa.drew;refine gb h fun M R h=>?_;refine jO 2 ?_;refine LW.cl (W_s_l8Copy R rfl (K.rB H)) ?_;rintro _ ae ⟨p,x,rfl,hs⟩;have y:=K.add hs;refine jN (.c (y.ce 2) (jW jZ)) ?_;refine AW.u (i:=4) rfl (by kernel_rfl) rfl rfl (Pur.build (vs:=[(0,vS p M.length x),(1,.agg #[vI a.gc.phase,vI a.gc.pos,vI a.gc.round,vS o L.length t])]) (cs:=#[vS p M.length x,vI a.gc.phase,vI a.gc.pos,vI a.gc.round,vS o L.length t]) rfl (by kernel_rfl)) ?_;refine jO 5 ?_;refine LW.st y 3 fun af z=>?_;refine jN (jW (jW jZ)) ?_;refine go ?_;cases h;exact And.intro trivial ⟨_,Res.one (resOne.b z 3 rfl ag32 rfl rfl),p,x,o,t,rfl,z.pk [0,1]⟩
theorem W_s_AmtOk {w0 N a r} (h:F_s_AmtOk N a=some r) :
    Ret Tryz.prog 31 #[.agg #[vI a.pages,vI a.rent,vI a.cpu]] w0 (fun v w=>v=.bool r∧St w0 [] w []):=by
 unfold F_s_AmtOk at h;refine Ret.fn Tryz.func31 fun e=>?_;have d:=St.start w0;refine go ?_;refine LW.bo d fun o p f=>?_;refine gb h fun t k h=>?_;refine LW.c0 (W_s_l5In k) f fun q b=>?_;refine go ?_;rcases bh h with ⟨i,h⟩ | ⟨i,h⟩
 · refine gb h fun u l h=>?_;refine go ?_;refine LW.c0 (W_s_l5In l) b fun s c=>?_;refine go ?_;rcases bh h with ⟨j,h⟩ | ⟨j,h⟩
   · refine gb h fun x m h=>?_;refine go ?_;refine LW.c0 (W_s_l5In m) c fun n g=>?_;refine go ?_;cases h;exact fi g
   refine go ?_;cases h;exact fi c
 refine go ?_;cases h;exact fi b
theorem W_s_ObjOk {w0 N f r} (h:F_s_ObjOk N f=some r) {s H A} (ab:H=f.links.length) (ae:rb w0 s A f.links) {y I B} (ac:I=f.data.length) (af:rb w0 y B f.data) {z J C} (ad:J=f.queue.length) (ah:rb w0 z C f.queue) :
    Ret Tryz.prog 100 #[.agg #[vI f.gen,vI f.kind,vI f.box,vI f.res,vI f.til,vI f.pages,vI f.wait,vI f.got,vI f.ran,.bool f.mark,vS s H A,vS y I B,vS z J C]] w0 (fun v w=>v=.bool r∧St w0 [] w []):=by
 subst ab ac ad;unfold F_s_ObjOk at h;refine Ret.fn Tryz.func100 fun e=>?_;have b7:=St.start w0;refine go ?_;refine LW.bo b7 fun dm dn b8=>?_;refine gb h fun dq cf h=>?_;refine LW.c0 (W_s_l1In cf) b8 fun dp b=>?_;refine go ?_;refine ch h (fun ca h=>?_) fun ca h=>?_
 · refine go ?_;cases h;exact fi b
 refine go ?_;refine ch h (fun cb h=>?_) fun cb h=>?_
 · refine gs ?_;obtain ⟨cq,ce,cp⟩:=ob h;refine CW.jn [] [] [(2,.bool cq)] b (h1:=?_) (h2:=?_)
   · have h:=ce;refine go ?_;rcases bh h with ⟨cc,h⟩ | ⟨cc,h⟩
     · refine go ?_;rcases bh h with ⟨a1,h⟩ | ⟨a1,h⟩
       · refine go ?_;refine LW.fl [1,26] fun e=>?_;rcases bh h with ⟨a2,h⟩ | ⟨a2,h⟩
         · refine go ?_;rcases bh h with ⟨a3,h⟩ | ⟨a3,h⟩
           · refine go ?_;rcases bh h with ⟨a4,h⟩ | ⟨a4,h⟩
             · refine go ?_;rcases bh h with ⟨a5,h⟩ | ⟨a5,h⟩
               · refine go ?_;rcases bh h with ⟨a6,h⟩ | ⟨a6,h⟩
                 · refine go ?_;refine LW.fl [1,51] fun e=>?_;rcases bh h with ⟨a7,h⟩ | ⟨a7,h⟩
                   · refine go ?_;rcases bh h with ⟨a8,h⟩ | ⟨a8,h⟩
                     · refine go ?_;rcases bh h with ⟨a9,h⟩ | ⟨a9,h⟩
                       · refine go ?_;cases oi h;exact b.po []
                       refine go ?_;cases oi h;exact b.po []
                     refine go ?_;cases oi h;exact b.po []
                   refine go ?_;cases oi h;exact b.po []
                 refine go ?_;cases oi h;exact b.po []
               refine go ?_;cases oi h;exact b.po []
             refine go ?_;cases oi h;exact b.po []
           refine go ?_;cases oi h;exact b.po []
         refine go ?_;cases oi h;exact b.po []
       refine go ?_;cases oi h;exact b.po []
     refine go ?_;cases oi h;exact b.po []
   intro e cN b9;have h:=cp;refine go ?_;cases h;exact fi b9
 refine gs ?_;obtain ⟨cg,bH,b4⟩:=ob h;refine CW.jn [1] [0] [(108,.bool cg)] b (h1:=?_) (h2:=?_)
 · have h:=bH;refine gb h fun c8 bO h=>?_;refine LW.c0 (W_s_l1In bO) b fun cO aK=>?_;refine go ?_;rcases bh h with ⟨ba,h⟩ | ⟨ba,h⟩
   · refine go ?_;cases oi h;exact aK.po [0]
   refine gb h fun c9 bP h=>?_;refine go ?_;refine LW.c0 (W_s_l1In bP) aK fun cP aL=>?_;refine go ?_;rcases bh h with ⟨bb,h⟩ | ⟨bb,h⟩
   · refine go ?_;cases oi h;exact aL.po [0]
   refine gb h fun da bQ h=>?_;refine go ?_;refine LW.c0 (W_s_l6Res bQ) aL fun cQ aM=>?_;refine go ?_;refine LW.fl [1,85] fun e=>?_;rcases bh h with ⟨bc,h⟩ | ⟨bc,h⟩
   · refine go ?_;cases oi h;exact aM.po [0]
   refine gb h fun db bR h=>?_;refine go ?_;refine LW.c0 (W_s_l1In bR) aM fun cR aN=>?_;refine go ?_;rcases bh h with ⟨bd,h⟩ | ⟨bd,h⟩
   · refine go ?_;cases oi h;exact aN.po [0]
   refine gb h fun dc bS h=>?_;refine go ?_;refine LW.c0 (W_s_l1In bS) aN fun cS Z=>?_;refine go ?_;rcases bh h with ⟨be,h⟩ | ⟨be,h⟩
   · refine go ?_;cases oi h;exact Z.po [0]
   refine go ?_;rcases bh h with ⟨bf,h⟩ | ⟨bf,h⟩
   · refine go ?_;cases oi h;exact Z.po [0]
   refine gb h fun dd bT h=>?_;refine go ?_;refine LW.c0 (W_s_l1In bT) Z fun cT aT=>?_;refine go ?_;cases oi h;exact aT.po [0]
 intro e cU M;have h:=b4;refine go ?_;refine ch h (fun bg h=>?_) fun bg h=>?_
 · refine go ?_;cases h;exact fi M
 refine go ?_;obtain ⟨aO,bL,aJ⟩:=ob h;refine CW.mono (CW.lx [1] [0] [1] 0 (fun aP=>[(3,vI aP)]) (RT Tryz.prog Tryz.f100.results (fun u=>.bool u) w0 []) M bL (hb:=?_)) ?_
 · intro aP e cV o n h;refine go ?_;refine ch h (fun bi h=>?_) fun bi h=>?_
   · refine gb h fun de bU h=>?_;obtain ⟨cL,cM,co,rfl,aa,bM,bN,rfl,bK⟩:=ae.idx bU;refine ix bM bN ?_;refine LW.l (Ldr.old w0 ag3 rfl (bK 0 _ rfl)) (n.same _ aa.1 aa.2) rfl ?_;have ⟨df,bV,h⟩:=ob h;refine LW.c0 (W_s_l1In bV) n fun cW O=>?_;refine go ?_;refine CW.fl [1,3,119] fun e=>?_;refine ch h (fun bj h=>?_) fun bj h=>?_
     · refine go ?_;cases oi h;exact ⟨trivial,rfl,_,rfl,⟨_,Res.one (resOne.t rfl),rfl,O.pk []⟩⟩
     refine go ?_;cases oi h;exact ⟨rfl,(O.po [0])⟩
   refine go ?_;cases oi h;exact ⟨trivial,rfl,(n.po [0])⟩
 intro x e cX hM;rcases aO with aO | cv
 · obtain ⟨rfl,hM⟩:=hM;obtain ⟨hE,a⟩:=hM;obtain ⟨e,rfl⟩:=hE.out;have h:=aJ;refine gs ?_;obtain ⟨ci,bI,b5⟩:=ob h;refine CW.jn [1] [0] [(165,.bool ci)] a (h1:=?_) (h2:=?_)
   · have h:=bI;refine go ?_;rcases bh h with ⟨bk,h⟩ | ⟨bk,h⟩
     · refine go ?_;rcases bh h with ⟨bl,h⟩ | ⟨bl,h⟩
       · refine go ?_;cases oi h;exact a.po [0]
       refine go ?_;refine LW.fl [1,123,132] fun e=>?_;rcases bh h with ⟨bm,h⟩ | ⟨bm,h⟩
       · refine go ?_;cases oi h;exact a.po [0]
       refine go ?_;rcases bh h with ⟨bn,h⟩ | ⟨bn,h⟩
       · refine go ?_;cases oi h;exact a.po [0]
       refine go ?_;rcases bh h with ⟨bp,h⟩ | ⟨bp,h⟩
       · refine go ?_;rcases bh h with ⟨bq,h⟩ | ⟨bq,h⟩
         · refine go ?_;cases oi h;exact a.po [0]
         refine go ?_;rcases bh h with ⟨br,h⟩ | ⟨br,h⟩
         · refine go ?_;refine LW.fl [1,138,142,146,150,153] fun e=>?_;have ⟨dg,bW,h⟩:=ob h;refine go ?_;refine LW.c0 (W_s_l8Handle bW) a fun cY R=>?_;refine go ?_;rcases bh h with ⟨bs,h⟩ | ⟨bs,h⟩
           · refine go ?_;cases oi h;exact R.po [0]
           refine gb h fun dh bX h=>?_;refine go ?_;refine LW.c0 (W_s_l1In bX) R fun cZ aU=>?_;refine go ?_;cases oi h;exact aU.po [0]
         refine go ?_;refine LW.fl [1,138,142,158,160] fun e=>?_;have ⟨di,bY,h⟩:=ob h;refine go ?_;refine LW.c0 (W_s_l1In bY) a fun c1 aV=>?_;refine go ?_;cases oi h;exact aV.po [0]
       refine go ?_;cases oi h;exact a.po [0]
     refine go ?_;refine LW.fl [1,138,142] fun e=>?_;rcases bh h with ⟨bt,h⟩ | ⟨bt,h⟩
     · refine go ?_;rcases bh h with ⟨bu,h⟩ | ⟨bu,h⟩
       · refine go ?_;cases oi h;exact a.po [0]
       refine go ?_;rcases bh h with ⟨bv,h⟩ | ⟨bv,h⟩
       · refine gb h fun dj bZ h=>?_;refine go ?_;refine LW.c0 (W_s_l8Handle bZ) a fun c2 U=>?_;refine go ?_;rcases bh h with ⟨bw,h⟩ | ⟨bw,h⟩
         · refine go ?_;cases oi h;exact U.po [0]
         refine gb h fun dk b0 h=>?_;refine go ?_;refine LW.c0 (W_s_l1In b0) U fun c3 aW=>?_;refine go ?_;cases oi h;exact aW.po [0]
       refine gb h fun dl b1 h=>?_;refine go ?_;refine LW.c0 (W_s_l1In b1) a fun c4 aX=>?_;refine go ?_;cases oi h;exact aX.po [0]
     refine go ?_;cases oi h;exact a.po [0]
   intro e c5 d;have h:=b5;refine go ?_;refine ch h (fun bz h=>?_) fun bz h=>?_
   · refine go ?_;cases h;exact fi d
   refine gs ?_;obtain ⟨cj,bJ,b6⟩:=ob h;refine CW.jn [1] [0] [(195,.bool cj)] d (h1:=?_) (h2:=?_)
   · have h:=bJ;refine go ?_;rcases bh h with ⟨bA,h⟩ | ⟨bA,h⟩
     · refine go ?_;rcases bh h with ⟨bB,h⟩ | ⟨bB,h⟩
       · refine go ?_;cases oi h;exact d.po [0]
       refine go ?_;refine LW.fl [1,183] fun e=>?_;rcases bh h with ⟨bC,h⟩ | ⟨bC,h⟩
       · refine go ?_;cases oi h;exact d.po [0]
       refine go ?_;rcases bh h with ⟨bD,h⟩ | ⟨bD,h⟩
       · refine go ?_;cases oi h;exact d.po [0]
       refine go ?_;cases oi h;exact d.po [0]
     refine go ?_;refine LW.fl [1,183,187] fun e=>?_;rcases bh h with ⟨bE,h⟩ | ⟨bE,h⟩
     · refine go ?_;cases oi h;exact d.po [0]
     refine go ?_;cases oi h;exact d.po [0]
   intro e c6 V;have h:=b6;refine go ?_;refine ch h (fun bF h=>?_) fun bF h=>?_
   · refine go ?_;cases h;exact fi V
   refine go ?_;obtain ⟨ai,az,K⟩:=ob h;refine CW.mono (CW.lx [1] [0] [1] 2 (fun aQ=>[(4,vI aQ)]) (RT Tryz.prog Tryz.f100.results (fun u=>.bool u) w0 []) V az (hb:=?_)) ?_
   · intro aQ e c7 o p h;refine go ?_;refine CW.fl [1,4,200] fun e=>?_;refine ch h (fun bG h=>?_) fun bG h=>?_
     · refine gb h fun cF aD h=>?_;obtain ⟨cm,cr,ck,rfl,G,aB,aC,rfl,ay⟩:=af.idx aD;refine ix aB aC ?_;refine LW.l (Ldr.old w0 ag3 rfl (ay 0 _ rfl)) (p.same _ G.1 G.2) rfl ?_;have ⟨cG,aE,h⟩:=ob h;refine LW.c0 (W_s_l1In aE) p fun cw W=>?_;refine go ?_;refine ch h (fun am h=>?_) fun am h=>?_
       · refine go ?_;cases oi h;exact ⟨trivial,rfl,_,rfl,⟨_,Res.one (resOne.t rfl),rfl,W.pk []⟩⟩
       refine go ?_;cases oi h;exact ⟨rfl,(W.po [0])⟩
     refine go ?_;cases oi h;exact ⟨trivial,rfl,(p.po [0])⟩
   intro x e cx hM;rcases ai with ai | cu
   · obtain ⟨rfl,hM⟩:=hM;obtain ⟨hE,m⟩:=hM;obtain ⟨e,rfl⟩:=hE.out;have h:=K;refine gs ?_;obtain ⟨b2,aw,aR⟩:=ob h;refine CW.jn [1] [0] [(224,.bool b2)] m (h1:=?_) (h2:=?_)
     · have h:=aw;refine go ?_;rcases bh h with ⟨an,h⟩ | ⟨an,h⟩
       · refine go ?_;cases oi h;exact m.po [0]
       refine go ?_;rcases bh h with ⟨ao,h⟩ | ⟨ao,h⟩
       · refine go ?_;cases oi h;exact m.po [0]
       refine go ?_;cases oi h;exact m.po [0]
     intro e cy X;have h:=aR;refine go ?_;refine ch h (fun ap h=>?_) fun ap h=>?_
     · refine go ?_;cases h;exact fi X
     refine go ?_;obtain ⟨aj,aA,L⟩:=ob h;refine CW.mono (CW.lx [1] [0] [] 4 (fun ak=>[(5,vI ak)]) (RT Tryz.prog Tryz.f100.results (fun u=>.bool u) w0 []) X aA (hb:=?_)) ?_
     · intro ak e cz o g h;refine go ?_;refine CW.fl [1,5,229] fun e=>?_;refine ch h (fun aq h=>?_) fun aq h=>?_
       · refine gs ?_;refine CW.block ?_;refine gs ?_;obtain ⟨b3,ax,aS⟩:=ob h;refine CW.jn [1,5] [0] [(258,.bool b3)] g (h1:=?_) (h2:=?_)
         · have h:=ax;refine gb h fun cH aF h=>?_;obtain ⟨cn,cs,cl,rfl,c,j,k,rfl,i⟩:=ah.idx aF;refine ix j k ?_;refine go ?_;refine LW.l (Ldr.old w0 ag3 rfl (i 0 _ rfl)) (g.same _ c.1 c.2) rfl ?_;refine go ?_;rcases bh h with ⟨ar,h⟩ | ⟨ar,h⟩
           · refine go ?_;refine ix j k ?_;refine go ?_;refine LW.l (Ldr.old w0 ag3 rfl (i 0 _ rfl)) (g.same _ c.1 c.2) rfl ?_;have ⟨cI,aG,h⟩:=ob h;refine go ?_;refine LW.c0 (W_s_l8Handle aG) g fun cA q=>?_;refine go ?_;rcases bh h with ⟨au,h⟩ | ⟨au,h⟩
             · refine go ?_;cases oi h;exact q.po [0]
             refine go ?_;refine ix j k ?_;refine go ?_;refine LW.fl [1,5,249,254] fun e=>?_;refine go ?_;refine LW.l (Ldr.old w0 ag3 rfl (i 1 _ rfl)) (q.same _ c.1 c.2) rfl ?_;have ⟨cJ,aH,h⟩:=ob h;refine go ?_;refine LW.c0 (W_s_l1In aH) q fun cB aY=>?_;refine go ?_;cases oi h;exact aY.po [0]
           refine go ?_;refine ix j k ?_;refine go ?_;refine LW.fl [1,5,249,254] fun e=>?_;refine go ?_;refine LW.l (Ldr.old w0 ag3 rfl (i 1 _ rfl)) (g.same _ c.1 c.2) rfl ?_;have ⟨cK,aI,h⟩:=ob h;refine go ?_;refine LW.c0 (W_s_l1In aI) g fun cC aZ=>?_;refine go ?_;cases oi h;exact aZ.po [0]
         intro e cD Y;have h:=aS;refine go ?_;refine ch h (fun av h=>?_) fun av h=>?_
         · refine go ?_;cases oi h;exact ⟨trivial,rfl,_,rfl,⟨_,Res.one (resOne.t rfl),rfl,Y.pk []⟩⟩
         refine go ?_;cases oi h;exact ⟨rfl,(Y.po [0])⟩
       refine go ?_;cases oi h;exact ⟨trivial,rfl,⟨trivial,g.pk [0]⟩⟩
     intro x e cE hM;rcases aj with aj | ct
     · obtain ⟨rfl,hM⟩:=hM;obtain ⟨hE,a0⟩:=hM;obtain ⟨e,rfl⟩:=hE.out;rw [show e=upds e [] from rfl];have h:=L;refine go ?_;cases h;exact fi a0
     obtain ⟨rfl,u,rfl,hM⟩:=hM;cases L;exact And.intro trivial hM
   obtain ⟨rfl,u,rfl,hM⟩:=hM;cases K;exact And.intro trivial hM
 obtain ⟨rfl,u,rfl,hM⟩:=hM;cases aJ;exact And.intro trivial hM
theorem W_s_TapOk {w0 N a r} (h:F_s_TapOk N a=some r) :
    Ret Tryz.prog 81 #[.agg #[vI a.res,vI a.toPart,vI a.toRes,vI a.which,vI a.kind,vI a.rate]] w0 (fun v w=>v=.bool r∧St w0 [] w []):=by
 unfold F_s_TapOk at h;refine Ret.fn Tryz.func81 fun e=>?_;have s:=St.start w0;refine go ?_;refine LW.bo s fun V W c=>?_;refine gs ?_;obtain ⟨G,z,C⟩:=ob h;refine CW.jn [1] [0] [(24,.bool G)] c (h1:=?_) (h2:=?_)
 · have h:=z;refine gb h fun Z A h=>?_;refine LW.c0 (W_s_l6Res A) c fun X d=>?_;refine go ?_;rcases bh h with ⟨y,h⟩ | ⟨y,h⟩
   · refine go ?_;cases oi h;exact d.po [0]
   refine gb h fun aa B h=>?_;refine go ?_;refine LW.c0 (W_s_l1In B) d fun Y f=>?_;refine go ?_;rcases bh h with ⟨i,h⟩ | ⟨i,h⟩
   · refine go ?_;cases oi h;exact f.po [0]
   refine gb h fun M n h=>?_;refine go ?_;refine LW.c0 (W_s_l6Res n) f fun H g=>?_;refine go ?_;rcases bh h with ⟨j,h⟩ | ⟨j,h⟩
   · refine go ?_;cases oi h;exact g.po [0]
   refine gb h fun O o h=>?_;refine go ?_;refine LW.c0 (W_s_l1In o) g fun I t=>?_;refine go ?_;cases oi h;exact t.po [0]
 intro e J b;have h:=C;refine go ?_;refine ch h (fun k h=>?_) fun k h=>?_
 · refine go ?_;cases h;exact fi b
 refine go ?_;refine ch h (fun l h=>?_) fun l h=>?_
 · refine gb h fun R p h=>?_;refine LW.c0 (W_s_l1In p) b fun K u=>?_;refine go ?_;cases h;exact fi u
 refine go ?_;refine ch h (fun m h=>?_) fun m h=>?_
 · refine gb h fun U q h=>?_;refine LW.c0 (W_s_l1In q) b fun L x=>?_;refine go ?_;cases h;exact fi x
 refine go ?_;cases h;exact fi b
theorem W_s_HandlePart {w0 N f r} (h:F_s_HandlePart N f=some r) :
    Ret Tryz.prog 48 #[vI f] w0 (fun v w=>v=vI r∧St w0 [] w []):=by
 unfold F_s_HandlePart at h;refine Ret.fn Tryz.func48 fun e=>?_;have b:=St.start w0;refine gb h fun i d h=>?_;refine LW.c0 (W_s_l8Handle d) b fun g a=>?_;refine go ?_;refine ch h (fun c h=>?_) fun c h=>?_
 · refine go ?_;cases h;exact fi a
 refine go ?_;refine LW.u (Pur.rem rfl rfl (by decide)) rfl ?_;refine go ?_;cases h;exact fi a
theorem W_s_HandleSlot {w0 N f r} (h:F_s_HandleSlot N f=some r) :
    Ret Tryz.prog 251 #[vI f] w0 (fun v w=>v=vI r∧St w0 [] w []):=by
 unfold F_s_HandleSlot at h;refine Ret.fn Tryz.func251 fun e=>?_;have b:=St.start w0;refine gb h fun i d h=>?_;refine LW.c0 (W_s_l8Handle d) b fun g a=>?_;refine go ?_;refine ch h (fun c h=>?_) fun c h=>?_
 · refine go ?_;cases h;exact fi a
 refine go ?_;refine LW.u (Pur.quo rfl rfl (by decide)) rfl ?_;refine LW.u (Pur.rem rfl rfl (by decide)) rfl ?_;refine go ?_;cases h;exact fi a
theorem W_s_HandleGen {w0 N f r} (h:F_s_HandleGen N f=some r) :
    Ret Tryz.prog 252 #[vI f] w0 (fun v w=>v=vI r∧St w0 [] w []):=by
 unfold F_s_HandleGen at h;refine Ret.fn Tryz.func252 fun e=>?_;have b:=St.start w0;refine gb h fun i d h=>?_;refine LW.c0 (W_s_l8Handle d) b fun g a=>?_;refine go ?_;refine ch h (fun c h=>?_) fun c h=>?_
 · refine go ?_;cases h;exact fi a
 refine go ?_;refine LW.u (Pur.quo rfl rfl (by decide)) rfl ?_;refine LW.u (Pur.quo rfl rfl (by decide)) rfl ?_;refine go ?_;cases h;exact fi a
theorem W_s_HandleOf {w0 N o p q r} (h:F_s_HandleOf N o p q=some r) :
    Ret Tryz.prog 182 #[vI o,vI p,vI q] w0 (fun v w=>v=vI r∧St w0 [] w []):=by
 unfold F_s_HandleOf at h;refine Ret.fn Tryz.func182 fun e=>?_;have a:=St.start w0;refine gs ?_;refine CW.region ?_;refine gs ?_;obtain ⟨s,k,h2⟩:=ob h;refine CW.jn [0,1,2] [] [(19,.bool s)] a (h1:=?_) (h2:=?_)
 · have h:=k;refine gb h fun z l h=>?_;refine LW.c0 (W_s_l1In l) a fun x b=>?_;refine go ?_;rcases bh h with ⟨i,h⟩ | ⟨i,h⟩
   · refine go ?_;cases oi h;exact b.po []
   refine gb h fun A m h=>?_;refine go ?_;refine LW.c0 (W_s_l8Slot m) b fun y c=>?_;refine go ?_;rcases bh h with ⟨j,h⟩ | ⟨j,h⟩
   · refine go ?_;cases oi h;exact c.po []
   refine gb h fun B n h=>?_;refine go ?_;refine LW.c0 (W_s_l1In n) c fun t g=>?_;refine go ?_;cases oi h;exact g.po []
 intro e u d;have h:=h2;refine go ?_;refine ch h (fun f h=>?_) fun f h=>?_
 · refine go ?_;cases h;exact fi d
 refine go ?_;cases h;exact fi d
theorem W_i_copyArena {w0 N C r} (h:F_i_copyArena N C=some r) {f B g} (H:B=C.length) (I:rb w0 f g C) :
    Ret Tryz.prog 220 #[vS f B g] w0 (fun v w=>∃ R X,v=vS R r.length X∧St w0 [] w [sl R X r]):=by
 subst H;unfold F_i_copyArena at h;refine Ret.fn Tryz.func220 fun e=>?_;have ak:=St.start w0;refine go ?_;refine LW.bsl (α:=DObj) (vs:=[]) (cs:=#[]) (l:=([]:List DObj)) rfl (by kernel_rfl) rfl rfl rfl (fun w=>rfl) ak rfl ?_;intro ay az aL am hf;refine go ?_;obtain ⟨aD,aa,aj⟩:=ob h;refine CW.ie aa 0 (fun y e wb=>∃ (c:Ad) (d:Nat),En e [(3,vS c y.1.length d),(7,vS f C.length g),(8,vI (C.length:Int)),(9,vI y.2)]∧St w0 [] wb [sl c d y.1]) ?_ ⟨ay,az,am.po [0]⟩ ?_
 · intro y e aM o hM h;obtain ⟨c,d,hE,z⟩:=hM;obtain ⟨e,rfl⟩:=hE.out;refine go ?_;refine ch h (fun au h=>?_) fun au h=>?_
   · refine gb h fun b ax h=>?_;obtain ⟨aB,aC,aA,rfl,A,av,aw,⟨J,U,K,V,O,W,rfl,ab,ac,ad⟩,Z⟩:=I.idx ax;refine ix av aw ?_;refine LW.l (Ldr.oldN w0 ag44 rfl rfl (fun j u hu=>Z j u hu)) (z.same _ A.1 A.2) rfl ?_;refine LW.al z fun Y aF an=>?_;refine LW.st an 0 fun aG x=>?_;refine gb h fun a ae h=>?_;refine LW.cl (W_i_copyObj ae rfl (x.rB ab) rfl (x.rB ac) rfl (x.rB ad)) ?_;rintro _ aH ⟨k,p,m,q,n,s,rfl,hs⟩;have ao:=x.add hs;have ap:=ao.pk (M:=[sl k p a.links,sl m q a.data,sl n s a.queue]++[bx Y 44 [vI b.gen,vI b.kind,vI b.box,vI b.res,vI b.til,vI b.pages,vI b.wait,vI b.got,vI b.ran,.bool b.mark,vS J b.links.length U,vS K b.data.length V,vS O b.queue.length W],sl c d y.1]) [0,1,2,3,4];have ⟨aK,af,h⟩:=ob h;refine LW.app1 (M:=[sl k p a.links,sl m q a.data,sl n s a.queue]) (L:=[bx Y 44 [vI b.gen,vI b.kind,vI b.box,vI b.res,vI b.til,vI b.pages,vI b.wait,vI b.got,vI b.ran,.bool b.mark,vS J b.links.length U,vS K b.data.length V,vS O b.queue.length W],sl c d y.1]) (vs:=#[vI a.gen,vI a.kind,vI a.box,vI a.res,vI a.til,vI a.pages,vI a.wait,vI a.got,vI a.ran,.bool a.mark,vS k a.links.length p,vS m a.data.length q,vS n a.queue.length s]) (i:=1) sT28 rfl (by kernel_rfl) rfl rfl af ap rfl (fun w G hG=>⟨k,p,m,q,n,s,rfl,hG⟩) rfl rfl ?_;intro aE ah ai aI aq hf;refine go ?_;cases oi h;exact ⟨rfl,⟨ah,ai,aq.po [1]⟩⟩
   refine go ?_;cases oi h;exact ⟨trivial,rfl,⟨c,d,z.po [0]⟩⟩
 rintro e aJ ⟨c,d,hE,ar⟩;obtain ⟨e,rfl⟩:=hE.out;have h:=aj;refine go ?_;cases h;exact And.intro trivial ⟨_,Res.one (resOne.t rfl),c,d,rfl,ar.pk [0]⟩
theorem W_i_TapOk {w0 N a r} (h:F_i_TapOk N a=some r) :
    Ret Tryz.prog 149 #[.agg #[vI a.res,vI a.toPart,vI a.toRes,vI a.which,vI a.kind,vI a.rate]] w0 (fun v w=>v=.bool r∧St w0 [] w []):=by
 unfold F_i_TapOk at h;refine Ret.fn Tryz.func149 fun e=>?_;have z:=St.start w0;refine go ?_;refine LW.bo z fun ab ac d=>?_;refine gs ?_;obtain ⟨K,G,J⟩:=ob h;refine CW.jn [1] [0] [(24,.bool K)] d (h1:=?_) (h2:=?_)
 · have h:=G;refine gb h fun af H h=>?_;refine LW.c0 (W_i_isPlace H) d fun ad f=>?_;refine go ?_;rcases bh h with ⟨C,h⟩ | ⟨C,h⟩
   · refine go ?_;cases oi h;exact f.po [0]
   refine gb h fun ah I h=>?_;refine go ?_;refine LW.c0 (W_i_isPlace I) f fun ae g=>?_;refine go ?_;rcases bh h with ⟨k,h⟩ | ⟨k,h⟩
   · refine go ?_;cases oi h;exact g.po [0]
   refine gb h fun W s h=>?_;refine go ?_;refine LW.c0 (W_i_isPart s) g fun L i=>?_;refine go ?_;rcases bh h with ⟨l,h⟩ | ⟨l,h⟩
   · refine go ?_;cases oi h;exact i.po [0]
   refine gb h fun X t h=>?_;refine go ?_;refine LW.c0 (W_i_within t) i fun M A=>?_;refine go ?_;cases oi h;exact A.po [0]
 intro e O b;have h:=J;refine go ?_;refine ch h (fun m h=>?_) fun m h=>?_
 · refine go ?_;cases h;exact fi b
 refine go ?_;rcases bh h with ⟨n,h⟩ | ⟨n,h⟩
 · refine gb h fun Y u h=>?_;refine go ?_;refine LW.c0 (W_i_within u) b fun R c=>?_;refine go ?_;rcases bh h with ⟨o,h⟩ | ⟨o,h⟩
   · refine go ?_;cases h;exact fi c
   refine go ?_;rcases bh h with ⟨p,h⟩ | ⟨p,h⟩
   · refine gb h fun Z x h=>?_;refine go ?_;refine LW.c0 (W_i_within x) c fun U B=>?_;refine go ?_;cases h;exact fi B
   refine go ?_;cases h;exact fi c
 refine go ?_;rcases bh h with ⟨q,h⟩ | ⟨q,h⟩
 · refine gb h fun aa y h=>?_;refine go ?_;refine LW.c0 (W_i_within y) b fun V j=>?_;refine go ?_;cases h;exact fi j
 refine go ?_;cases h;exact fi b
theorem W_i_AmtOk {w0 N a r} (h:F_i_AmtOk N a=some r) :
    Ret Tryz.prog 155 #[.agg #[vI a.pages,vI a.rent,vI a.cpu]] w0 (fun v w=>v=.bool r∧St w0 [] w []):=by
 unfold F_i_AmtOk at h;refine Ret.fn Tryz.func155 fun e=>?_;have d:=St.start w0;refine go ?_;refine LW.bo d fun o p f=>?_;refine gb h fun t k h=>?_;refine LW.c0 (W_i_isAmount k) f fun q b=>?_;refine go ?_;rcases bh h with ⟨i,h⟩ | ⟨i,h⟩
 · refine gb h fun u l h=>?_;refine go ?_;refine LW.c0 (W_i_isAmount l) b fun s c=>?_;refine go ?_;rcases bh h with ⟨j,h⟩ | ⟨j,h⟩
   · refine gb h fun x m h=>?_;refine go ?_;refine LW.c0 (W_i_isAmount m) c fun n g=>?_;refine go ?_;cases h;exact fi g
   refine go ?_;cases h;exact fi c
 refine go ?_;cases h;exact fi b
theorem W_i_isLive {w0 N k t r} (h:F_i_isLive N k t=some r) {a f b} (g:f=k.length) (i:rb w0 a b k) :
    Ret Tryz.prog 159 #[vS a f b,vI t] w0 (fun v w=>v=.bool r∧St w0 [] w []):=by
 subst g;unfold F_i_isLive at h;refine Ret.fn Tryz.func159 fun e=>?_;have m:=St.start w0;refine gb h fun A q h=>?_;refine LW.c0 (W_i_isPlace q) m fun z c=>?_;refine go ?_;rcases bh h with ⟨n,h⟩ | ⟨n,h⟩
 · refine gb h fun B s h=>?_;obtain ⟨x,y,u,rfl,d,o,p,rfl,j⟩:=i.idx s;refine go ?_;refine ix o p ?_;refine go ?_;refine LW.l (Ldr.old w0 ag4 rfl (j 0 _ rfl)) (c.same _ d.1 d.2) rfl ?_;refine go ?_;cases h;exact fi c
 refine go ?_;cases h;exact fi c
theorem W_i_listsOk {w0 N a r} (h:F_i_listsOk N a=some r) {g q m} (K:q=a.links.length) (O:rb w0 g m a.links) {i s n} (L:s=a.data.length) (R:rb w0 i n a.data) {k y p} (M:y=a.queue.length) (U:rb w0 k p a.queue) :
    Ret Tryz.prog 307 #[.agg #[vI a.gen,vI a.kind,vI a.box,vI a.res,vI a.til,vI a.pages,vI a.wait,vI a.got,vI a.ran,.bool a.mark,vS g q m,vS i s n,vS k y p]] w0 (fun v w=>v=.bool r∧St w0 [] w []):=by
 subst K L M;unfold F_i_listsOk at h;refine Ret.fn Tryz.func307 fun e=>?_;have aU:=St.start w0;refine go ?_;refine LW.bo aU fun bJ bK aV=>?_;refine go ?_;obtain ⟨aa,aD,V⟩:=ob h;refine CW.mono (CW.lx [1,12,13] [0] [1] 0 (fun a5=>[(14,vI a5)]) (RT Tryz.prog Tryz.f307.results (fun u=>.bool u) w0 []) aV aD (hb:=?_)) ?_
 · intro a5 e bL o B h;refine go ?_;refine ch h (fun aY h=>?_) fun aY h=>?_
   · refine gb h fun bM a1 h=>?_;obtain ⟨bI,bc,a6,rfl,H,aZ,a0,rfl,aA⟩:=O.idx a1;refine ix aZ a0 ?_;refine LW.l (Ldr.old w0 ag3 rfl (aA 0 _ rfl)) (B.same _ H.1 H.2) rfl ?_;refine gb h fun bB aK h=>?_;refine LW.c0 (W_i_within aK) B fun bj Y=>?_;refine go ?_;refine CW.fl [1,12,13,14,20] fun e=>?_;refine ch h (fun aj h=>?_) fun aj h=>?_
     · refine go ?_;cases oi h;exact ⟨trivial,rfl,_,rfl,⟨_,Res.one (resOne.t rfl),rfl,Y.pk []⟩⟩
     refine go ?_;cases oi h;exact ⟨rfl,(Y.po [0])⟩
   refine go ?_;cases oi h;exact ⟨trivial,rfl,(B.po [0])⟩
 intro x e bk hM;rcases aa with aa | bi
 · obtain ⟨rfl,hM⟩:=hM;obtain ⟨hE,aW⟩:=hM;obtain ⟨e,rfl⟩:=hE.out;have h:=V;refine go ?_;obtain ⟨ab,aE,W⟩:=ob h;refine CW.mono (CW.lx [1,23,24] [0] [1] 2 (fun ad=>[(25,vI ad)]) (RT Tryz.prog Tryz.f307.results (fun u=>.bool u) w0 []) aW aE (hb:=?_)) ?_
   · intro ad e bl o C h;refine go ?_;refine ch h (fun ak h=>?_) fun ak h=>?_
     · refine gb h fun bC aL h=>?_;obtain ⟨a9,bd,a7,rfl,I,aG,aI,rfl,aB⟩:=R.idx aL;refine ix aG aI ?_;refine LW.l (Ldr.old w0 ag3 rfl (aB 0 _ rfl)) (C.same _ I.1 I.2) rfl ?_;refine gb h fun bD aM h=>?_;refine LW.c0 (W_i_within aM) C fun bm Z=>?_;refine go ?_;refine CW.fl [1,23,24,25,31] fun e=>?_;refine ch h (fun am h=>?_) fun am h=>?_
       · refine go ?_;cases oi h;exact ⟨trivial,rfl,_,rfl,⟨_,Res.one (resOne.t rfl),rfl,Z.pk []⟩⟩
       refine go ?_;cases oi h;exact ⟨rfl,(Z.po [0])⟩
     refine go ?_;cases oi h;exact ⟨trivial,rfl,(C.po [0])⟩
   intro x e bn hM;rcases ab with ab | bg
   · obtain ⟨rfl,hM⟩:=hM;obtain ⟨hE,aX⟩:=hM;obtain ⟨e,rfl⟩:=hE.out;have h:=W;refine go ?_;obtain ⟨ac,aF,X⟩:=ob h;refine CW.mono (CW.lx [1,34,35] [0] [1] 4 (fun ae=>[(36,vI ae)]) (RT Tryz.prog Tryz.f307.results (fun u=>.bool u) w0 []) aX aF (hb:=?_)) ?_
     · intro ae e bp o G h;refine go ?_;refine CW.fl [1,34,35,36,37] fun e=>?_;refine ch h (fun an h=>?_) fun an h=>?_
       · refine gb h fun bE aN h=>?_;obtain ⟨ba,be,a8,rfl,J,aH,aJ,rfl,aC⟩:=U.idx aN;refine ix aH aJ ?_;refine LW.l (Ldr.oldN w0 ag189 rfl rfl (fun j u hu=>aC j u hu)) (G.same _ J.1 J.2) rfl ?_;refine LW.al G fun bb bq af=>?_;refine LW.st af 0 fun br b=>?_;refine gs ?_;obtain ⟨a2,ax,aR⟩:=ob h;refine CW.jn [1,34,35,36] [1] [(54,.bool a2)] b (h1:=?_) (h2:=?_)
         · have h:=ax;refine go ?_;rcases bh h with ⟨ao,h⟩ | ⟨ao,h⟩
           · refine gb h fun bF aO h=>?_;refine go ?_;refine LW.c0 (W_i_isHandle aO) b fun bs z=>?_;refine go ?_;rcases bh h with ⟨ap,h⟩ | ⟨ap,h⟩
             · refine go ?_;cases oi h;exact z.po [1]
             refine gb h fun bG aP h=>?_;refine go ?_;refine LW.c0 (W_i_within aP) z fun bt ah=>?_;refine go ?_;cases oi h;exact ah.po [1]
           refine gb h fun bH aQ h=>?_;refine go ?_;refine LW.c0 (W_i_within aQ) b fun bu ai=>?_;refine go ?_;cases oi h;exact ai.po [1]
         intro e bv A;have h:=aR;refine go ?_;refine ch h (fun aq h=>?_) fun aq h=>?_
         · refine go ?_;cases oi h;exact ⟨trivial,rfl,_,rfl,⟨_,Res.one (resOne.t rfl),rfl,A.pk []⟩⟩
         refine go ?_;cases oi h;exact ⟨rfl,(A.po [0])⟩
       refine go ?_;cases oi h;exact ⟨trivial,rfl,(G.po [0])⟩
     intro x e bw hM;rcases ac with ac | bf
     · obtain ⟨rfl,hM⟩:=hM;obtain ⟨hE,c⟩:=hM;obtain ⟨e,rfl⟩:=hE.out;have h:=X;refine gs ?_;refine CW.region ?_;refine gs ?_;refine CW.region ?_;refine gs ?_;obtain ⟨a3,ay,aS⟩:=ob h;refine CW.jn [1,10] [0] [(9,vI a3)] c (h1:=?_) (h2:=?_)
       · have h:=ay;refine CW.fl [1,9,10,58] fun e=>?_;refine ch h (fun ar h=>?_) fun ar h=>?_
         · refine go ?_;cases oi h;exact c.po [0]
         refine go ?_;cases oi h;exact c.po [0]
       intro e bz d;have h:=aS;refine gs ?_;refine CW.region ?_;refine gs ?_;obtain ⟨a4,az,aT⟩:=ob h;refine CW.jn [1,9] [0] [(10,vI a4)] d (h1:=?_) (h2:=?_)
       · have h:=az;refine CW.fl [1,9,10,63] fun e=>?_;refine ch h (fun au h=>?_) fun au h=>?_
         · refine go ?_;cases oi h;exact d.po [0]
         refine go ?_;cases oi h;exact d.po [0]
       intro e bA f;have h:=aT;refine go ?_;refine LW.fl [1,9,10,68] fun e=>?_;rcases bh h with ⟨av,h⟩ | ⟨av,h⟩
       · refine go ?_;rcases bh h with ⟨aw,h⟩ | ⟨aw,h⟩
         · refine go ?_;cases h;exact fi f
         refine go ?_;cases h;exact fi f
       refine go ?_;cases h;exact fi f
     obtain ⟨rfl,u,rfl,hM⟩:=hM;cases X;exact And.intro trivial hM
   obtain ⟨rfl,u,rfl,hM⟩:=hM;cases W;exact And.intro trivial hM
 obtain ⟨rfl,u,rfl,hM⟩:=hM;cases V;exact And.intro trivial hM
end Go.Kx
