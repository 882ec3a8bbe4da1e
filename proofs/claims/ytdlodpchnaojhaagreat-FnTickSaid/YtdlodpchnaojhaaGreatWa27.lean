/- Each call returns what the plain function says. Printed by drive.py. -/
import Derived.Test.YtdlodpchnaojhaaGreatFa
import Derived.Test.YtdlodpchnaojhaaGreatPu
import Derived.Test.YtdlodpchnaojhaaGreatWa5
import Derived.Test.YtdlodpchnaojhaaGreatWa6
import Derived.Test.YtdlodpchnaojhaaGreatWa7
import Derived.Test.YtdlodpchnaojhaaGreatWa9
import Derived.Test.YtdlodpchnaojhaaGreatWa10
import Derived.Test.YtdlodpchnaojhaaGreatWa12
namespace Go.Kx
open Go Go.RowKit Go.Proofs
set_option maxRecDepth 10000
set_option maxHeartbeats 8000000
set_option linter.unusedVariables false
set_option linter.unusedSimpArgs false
theorem Dr {w0 N C R U r} (h:rT N C R U=some r) {c i d} (j:i=C.length) (k:rb w0 c d C) :
    iq Tryz.prog 121 #[vS c i d,vI R,vI U] w0 (fun v w=>v=vI r∧St w0 [] w []):=by
 subst j;unfold rT at h;refine iq.fn Tryz.func121 fun e=>?_;have J:=St.start w0;refine go ?_;obtain ⟨s,B,n⟩:=ob h;refine CW.mono (CW.lx [1,2,11,12] [] [7,8] 0 (fun m=>[(7,vI m.1),(8,vI m.2.1),(13,vI m.2.2)]) (RT Tryz.prog Tryz.f121.results (fun u=>vI u) w0 []) J B (hb:=?_)) ?_
 · intro m e af o a h;refine gc h ?_ ?_ <;> intro _ h
   · refine gb h fun ah K h=>?_;obtain ⟨ad,ae,V,rfl,g,W,X,rfl,A⟩:=k.idx K;refine go ?_;refine LW.l (iC.iP w0 jc rfl (A 0 _ rfl)) (a.same _ g.1 g.2) rfl ?_;refine go ?_;refine CW.fl [1,2,7,8,10,11,12,13,18] fun e=>?_;refine gc h ?_ ?_ <;> intro _ h
     · refine go ?_;cases oi h;exact ⟨rfl,(a.po [])⟩
     refine gc h ?_ ?_ <;> intro _ h
     · refine go ?_;cases oi h;exact ⟨trivial,rfl,_,rfl,rx ⟨rfl,a.pk []⟩⟩
     refine gs ?_;obtain ⟨L,t,G⟩:=ob h;refine CW.jn [1,2,7,8,10,11,12,13] [] [(29,.bool L)] a (h1:=?_) (h2:=?_)
     · have h:=t;refine gB h ?_ ?_ <;> intro _ h
       · refine go ?_;cases oi h;exact a.po []
       refine go ?_;cases oi h;exact a.po []
     intro e Z f;have h:=G;refine gs ?_;obtain ⟨M,y,H⟩:=ob h;refine CW.jn [1,2,8,10,11,12,13] [] [(7,vI M)] f (h1:=?_) (h2:=?_)
     · have h:=y;refine gc h ?_ ?_ <;> intro _ h
       · refine go ?_;cases oi h;exact f.po []
       refine go ?_;cases oi h;exact f.po []
     intro e aa b;have h:=H;refine gs ?_;obtain ⟨O,z,I⟩:=ob h;refine CW.jn [1,2,7,8,10,11,12,13] [] [(42,.bool O)] b (h1:=?_) (h2:=?_)
     · have h:=z;refine gB h ?_ ?_ <;> intro _ h
       · refine gB h ?_ ?_ <;> intro _ h
         · refine go ?_;cases oi h;exact b.po []
         refine go ?_;cases oi h;exact b.po []
       refine go ?_;cases oi h;exact b.po []
     intro e ab p;have h:=I;refine gc h ?_ ?_ <;> intro _ h
     · refine go ?_;cases oi h;exact ⟨rfl,(p.po [])⟩
     refine go ?_;cases oi h;exact ⟨rfl,(p.po [])⟩
   refine go ?_;cases oi h;exact ⟨trivial,rfl,(a.po [])⟩
 intro x e ac hM;rcases s with s | Y
 · obtain ⟨rfl,hM⟩:=hM;obtain ⟨e,rfl,q⟩:=eo hM;have h:=n;refine gc h ?_ ?_ <;> intro _ h
   · refine go ?_;cases h;exact fi q
   refine go ?_;cases h;exact fi q
 obtain ⟨rfl,u,rfl,hM⟩:=hM;cases n;exact And.intro trivial hM
theorem wZ {w0 N s r} (h:nG N s=some r) {g q k} (t:q=s.length) (x:rb w0 g k s) :
    iq Tryz.prog 204 #[vS g q k] w0 (fun v w=>∃ z B,v=vS z r.length B∧St w0 [] w [sl z B r]):=by
 subst t;unfold nG at h;refine iq.fn Tryz.func204 fun e=>?_;have X:=St.start w0;refine go ?_;refine LW.jV (α:=iZ) (vs:=[]) (cs:=#[]) (l:=([]:List iZ)) rfl (by kernel_rfl) rfl rfl rfl (fun w=>rfl) X rfl ?_;intro ah ai az Y hf;refine go ?_;obtain ⟨ap,J,W⟩:=ob h;refine CW.ie J 0 (fun m e wb=>∃ (a:Ad) (b:Nat),En e [(3,vS a m.1.length b),(7,vS g s.length k),(8,vI (s.length:Int)),(9,vI m.2)]∧St w0 [] wb [sl a b m.1]) ?_ ⟨ah,ai,Y.po [0]⟩ ?_
 · intro m e aA o hM h;obtain ⟨a,b,hE,n⟩:=hM;obtain ⟨e,rfl⟩:=hE.out;refine gc h ?_ ?_ <;> intro _ h
   · refine gb h fun af ae h=>?_;obtain ⟨ak,ao,aj,rfl,p,am,an,⟨y,A,rfl,K⟩,I⟩:=x.idx ae;refine go ?_;refine LW.l (iC.jH w0 BE rfl rfl (fun j u hu=>I j u hu)) (n.same _ p.1 p.2) rfl ?_;refine LW.al n fun C ar Z=>?_;refine LW.st Z 0 fun au H=>?_;refine gb h fun f O h=>?_;refine LW.cl (sR O rfl (H.rB K)) ?_;rintro _ av ⟨c,d,rfl,hs⟩;have aa:=H.add hs;refine LW.u (iD.build (vs:=[(0,vS c f.length d)]) (cs:=#[vS c f.length d]) rfl (by kernel_rfl)) rfl ?_;have ab:=aa.pk (M:=[sl c d f]++[bx C 153 [vS y af.list.length A],sl a b m.1]) [0,1,2];have ⟨ay,R,h⟩:=ob h;refine LW.lj (M:=[sl c d f]) (L:=[bx C 153 [vS y af.list.length A],sl a b m.1]) (vs:=#[vS c f.length d]) (i:=1) KR rfl (by kernel_rfl) rfl rfl R ab rfl (fun w G hG=>⟨c,d,rfl,hG⟩) rfl rfl ?_;intro aq U V aw ac hf;refine go ?_;cases oi h;exact ⟨rfl,⟨U,V,ac.po [1]⟩⟩
   refine go ?_;cases oi h;exact ⟨trivial,rfl,⟨a,b,n.po [0]⟩⟩
 rintro e ax ⟨a,b,hE,ad⟩;obtain ⟨e,rfl⟩:=hE.out;have h:=W;refine go ?_;cases h;exact Ra ⟨a,b,rfl,ad.pk [0]⟩
theorem DN {w0 N a b r} (h:rY N a b=some r) :
    iq Tryz.prog 205 #[.agg #[vI a.res,vI a.jJ,vI a.mf,vI a.kp,vI a.kind,vI a.lk],.agg #[vI b.bh,vI b.ib,vI b.ik]] w0 (fun v w=>v=vI r∧St w0 [] w []):=by
 unfold rY at h;refine iq.fn Tryz.func205 fun e=>?_;have k:=St.start w0;refine go ?_;refine LW.bo k fun A C l=>?_;refine LW.bo l fun B G c=>?_;refine gs ?_;obtain ⟨q,n,p⟩:=ob h;refine CW.jn [2,3] [0,1] [(13,.bool q)] c (h1:=?_) (h2:=?_)
 · have h:=n;refine gb h fun I o h=>?_;refine LW.c0 (xv o) c fun H d=>?_;refine gB h ?_ ?_ <;> intro _ h
   · refine go ?_;cases oi h;exact d.po [0,1]
   refine gb h fun y i h=>?_;refine go ?_;refine LW.c0 (nn i) d fun s m=>?_;refine go ?_;cases oi h;exact m.po [0,1]
 intro e t f;have h:=p;refine gc h ?_ ?_ <;> intro _ h
 · refine go ?_;cases h;exact fi f
 refine gb h fun z j h=>?_;refine LW.c0 (C9 j) f fun x g=>?_;refine gc h ?_ ?_ <;> intro _ h
 · refine go ?_;refine LW.u (iD.min rfl rfl) rfl ?_;refine go ?_;cases h;exact fi g
 refine go ?_;refine LW.u (iD.quo rfl rfl (by decide)) rfl ?_;refine go ?_;cases h;exact fi g
theorem Br {w0 N be ab r} (h:o4 N be ab=some r) {ac aw ae} (aH:aw=be.length) (x:rb w0 ac ae be) :
    iq Tryz.prog 290 #[vS ac aw ae,vI ab] w0 (fun v w=>∃ aM aN,v=.tuple #[vS aM r.1.length aN,.bool r.2]∧St w0 [] w [sl aM aN r.1]):=by
 subst aH;unfold o4 at h;refine iq.fn Tryz.func290 fun e=>?_;have aO:=St.start w0;refine gb h fun W bm h=>?_;refine LW.cl (ur bm rfl (aO.rB x)) ?_;rintro _ c2 ⟨bE,k,rfl,hs⟩;have ai:=aO.add hs;refine gs ?_;obtain ⟨b7,bl,bN⟩:=ob h;refine CW.jn [0,1,6] [0] [(27,.bool b7)] ai (h1:=?_) (h2:=?_)
 · have h:=bl;refine gb h fun c5 bn h=>?_;refine LW.c0 (vF bn rfl (ai.rB x)) ai fun c4 aP=>?_;refine gB h ?_ ?_ <;> intro _ h
   · refine go ?_;cases oi h;exact aP.po [0]
   refine gb h fun cY bb h=>?_;refine go ?_;refine LW.c0 (jE bb) aP fun cU ak=>?_;refine gB h ?_ ?_ <;> intro _ h
   · refine go ?_;cases oi h;exact ak.po [0]
   refine gb h fun cZ bc h=>?_;obtain ⟨cz,cO,bK,rfl,am,bO,bT,⟨cp,cF,cq,cG,cr,cH,rfl,bY,bZ,b0⟩,a9⟩:=x.idx bc;refine go ?_;refine LW.l (iC.iP w0 jc rfl (a9 1 _ rfl)) (ak.same _ am.1 am.2) rfl ?_;refine go ?_;cases oi h;exact ak.po [0]
 intro e cV Y;have h:=bN;refine gc h ?_ ?_ <;> intro _ h
 · refine go ?_;cases h;exact Rc tt tt ⟨bE,k,rfl,Y.pk [0]⟩
 refine gb h fun az bd h=>?_;obtain ⟨cA,cP,bL,rfl,an,bP,bU,⟨ct,cI,cu,cJ,cv,cK,rfl,b1,b2,b3⟩,ba⟩:=x.idx bd;refine go ?_;refine LW.l (iC.iP w0 jc rfl (ba 0 _ rfl)) (Y.same _ an.1 an.2) rfl ?_;refine LW.u (iD.build (vs:=[(0,vI az.gen)]) (cs:=#[vI az.gen,vI 0,vI 0,vI 0,vI 0,vI 0,vI 0,vI 0,vI 0,.bool false,vS none 0 0,vS none 0 0,vS none 0 0]) rfl (by kernel_rfl)) rfl ?_;have ⟨bp,ar,h⟩:=ob h;obtain ⟨c,b,hae,bQ,bV⟩:=Y.iJ (α:=cd) (i:=0) rfl ar;subst hae;refine go ?_;have bg:=Y.nil (α:=Int);have bi:=bg.nil (α:=Int);have bj:=bi.nil (α:=jI);have bk:=bj.pk (M:=[sl none 0 [],sl none 0 [],sl none 0 []]++[sl (some ⟨c,b,none⟩) k W]) [2,1,0,3];have ⟨aR,au,h⟩:=ob h;refine LW.yh (M:=[sl none 0 [],sl none 0 [],sl none 0 []]) (L:=[sl (some ⟨c,b,none⟩) k W]) (z:=bp) (z':=(cd.mk az.gen 0 0 0 0 0 0 0 0 false [] [] [])) (o:=0) bk (i:=0) rfl ar kW rfl (by show _=b+(ab:Int).toNat * 13+0;omega) rfl rfl rfl rfl (whole (fun w G hG=>⟨none,0,none,0,none,0,rfl,hG⟩)) ?_;intro cW af hf;rw [oi au] at af;refine go ?_;obtain ⟨b9,aL,aU⟩:=ob h;refine CW.ie aL 0 (fun d e wb=>En e [(1,vI ab),(6,vS (some ⟨c,b,none⟩) d.1.length k),(39,vI (W.length:Int)),(40,vI d.2)]∧St w0 [] wb [sl (some ⟨c,b,none⟩) k d.1]) ?_ ⟨⟨rfl,(show (vS (some ⟨c,b,none⟩) W.length k:Value)=vS (some ⟨c,b,none⟩) aR.length k by rw [show W.length=aR.length from (iM (oi au))]),rfl,rfl,trivial⟩,af.pk [0]⟩ ?_
 · intro d e aQ o hM h;obtain ⟨e,rfl,J⟩:=eo hM;refine go ?_;refine CW.fl [1,6,39,40,41] fun e=>?_;refine gc h ?_ ?_ <;> intro _ h
   · refine gb h fun c1 R h=>?_;obtain ⟨cB,cQ,hae,bR,bW⟩:=J.iJ (α:=cd) (i:=0) rfl R;cases hae;refine go ?_;obtain ⟨cn,C,y⟩:=J.freeze (α:=cd) 0 rfl;obtain ⟨cC,cR,bM,hae,ao,_,_,a7,ap⟩:=C.kr.idx R;cases hae;obtain ⟨cw,cL,cx,cM,cy,cN,rfl,b4,b5,b6⟩:=a7;refine LW.l (iC.iP aQ jc rfl (ap 1 _ rfl)) (y.zC 0 rfl ao) rfl ?_;refine gc h ?_ ?_ <;> intro _ h
     · refine go ?_;have aV:=y.jj (α:=cd) 0 rfl C;cases oi h;exact ⟨rfl,(aV.po [0])⟩
     refine go ?_;refine LW.l (iC.iP aQ jc rfl (ap 2 _ rfl)) (y.zC 0 rfl ao) rfl ?_;refine gs ?_;obtain ⟨t,a8,bf⟩:=ob h;refine CW.cut (fun e wb=>En e [(1,vI ab),(6,vS (some ⟨c,b,none⟩) t.length k),(7,vI d.2),(39,vI (W.length:Int)),(40,vI d.2)]∧St w0 [] wb [sl (some ⟨c,b,none⟩) k t]) ?_ ?_
     · have h:=a8;refine CW.fl [1,6,7,39,40,55] fun e=>?_;refine gc h ?_ ?_ <;> intro _ h
       · refine go ?_;have aW:=y.jj (α:=cd) 0 rfl C;have ⟨aS,av,h⟩:=ob h;refine LW.se 2 aW 0 R av (hM:=(kq (fun w cs F hF=>by obtain ⟨ca,ce,cb,cf,cc,cg,rfl,hH⟩:=hF;exact ⟨ca,ce,cb,cf,cc,cg,rfl,hH⟩))) fun cX aX=>?_;refine go ?_;replace h:=oi h;subst h;exact ⟨⟨rfl,(show (vS (some ⟨c,b,none⟩) d.1.length k:Value)=vS (some ⟨c,b,none⟩) aS.length k by rw [show d.1.length=aS.length from (iM (oi av))]),rfl,rfl,rfl,trivial⟩,aX.pk [0]⟩
       refine go ?_;have aY:=y.jj (α:=cd) 0 rfl C;cases oi h;exact aY.po [0]
     rintro e bo ⟨hE,ah⟩;obtain ⟨e,rfl⟩:=hE.out;have h:=bf;refine gb h fun a U h=>?_;obtain ⟨cD,cS,hae,bS,bX⟩:=ah.iJ (α:=cd) (i:=0) rfl U;cases hae;refine go ?_;obtain ⟨co,aq,K⟩:=ah.freeze (α:=cd) 0 rfl;obtain ⟨cE,cT,br,hae,Z,_,_,aD,aa⟩:=aq.kr.idx U;cases hae;obtain ⟨m,f,n,q,p,s,rfl,bv,bw,bz⟩:=aD;refine LW.l (iC.iP bo nE rfl (aa 10 _ rfl)) (K.zC 0 rfl Z) rfl ?_;refine go ?_;have aI:=fun (j:Nat) (u:Value) (hu:((qO m f n q p s a):List Value)[j]?=some u)=>(World.cell?_of_block (K.zC 0 rfl Z)).trans (aa j u hu);have aZ:=K.jj (α:=cd) 0 rfl aq;obtain ⟨bq,aJ,aF⟩:=aZ.focus (α:=cd) (cs:=[vI a.gen,vI a.kind,vI a.box,vI a.res,vI a.iU,vI a.bh,vI a.wait,vI a.iW,vI a.iR,.bool a.mark,vS m a.il.length f,vS n a.data.length q,vS p a.queue.length s]) 0 rfl U rfl aI;obtain ⟨bB,bG,bC,bI,bD,bJ,aC,aA⟩:=aJ;cases aC;have a0:=aF [sl m f a.il,sl n q a.data,sl p s a.queue] aA;obtain ⟨V,aK,aT⟩:=ob h;refine CW.ie aK 2 (fun g e wb=>En e [(1,vI ab),(6,vS (some ⟨c,b,none⟩) t.length k),(7,vI d.2),(39,vI (W.length:Int)),(40,vI d.2),(64,vS m g.1.length f),(65,vI (a.il.length:Int)),(66,vI g.2)]∧St w0 [] wb [sl m f g.1,sl n q a.data,sl p s a.queue,hole cd (some ⟨c,b,none⟩) k t (d.2:Int).toNat [vI a.gen,vI a.kind,vI a.box,vI a.res,vI a.iU,vI a.bh,vI a.wait,vI a.iW,vI a.iR,.bool a.mark,vS m g.1.length f,vS n a.data.length q,vS p a.queue.length s]]) ?_ (a0.po [0,1,2,3]) ?_
     · intro g e ay o hM h;obtain ⟨e,rfl,O⟩:=eo hM;refine gc h ?_ ?_ <;> intro _ h
       · refine gb h fun cm H h=>?_;obtain ⟨ad,ax,hae,bt,bu⟩:=O.iJ (α:=Int) (i:=0) rfl H;subst hae;refine go ?_;obtain ⟨bA,B,A⟩:=O.freeze (α:=Int) 0 rfl;obtain ⟨bF,b8,bs,hae,aB,_,_,aE,aG⟩:=B.kr.idx H;cases hae;obtain rfl:=aE;refine LW.l (iC.iP ay jc rfl (aG 0 _ rfl)) (A.zC 0 rfl aB) rfl ?_;refine go ?_;refine CW.fl [1,6,7,8,39,40,64,65,66,73] fun e=>?_;refine gc h ?_ ?_ <;> intro _ h
         · refine go ?_;refine LW.l (iC.iP ay nE rfl (A.KU 3 rfl (j:=10) rfl)) rfl rfl ?_;refine go ?_;have a1:=A.jj (α:=Int) 0 rfl B;have ⟨X,I,h⟩:=ob h;refine LW.se 0 a1 0 H I (hM:=uw) fun ci aj=>?_;refine go ?_;replace h:=oi h;subst h;rw [show g.1.length=X.length from (iM (oi I))] at aj;exact ⟨rfl,⟨⟨rfl,rfl,rfl,rfl,rfl,(show (vS (some ⟨ad,ax,none⟩) g.1.length f:Value)=vS (some ⟨ad,ax,none⟩) X.length f by rw [show g.1.length=X.length from (iM (oi I))]),rfl,rfl,trivial⟩,aj.pk [0,1,2,3]⟩⟩
         refine go ?_;have a3:=A.jj (α:=Int) 0 rfl B;cases oi h;exact ⟨rfl,(a3.po [0,1,2,3])⟩
       refine go ?_;cases oi h;exact ⟨trivial,rfl,(O.po [0,1,2,3])⟩
     rintro e cj ⟨hE,a4⟩;obtain ⟨e,rfl⟩:=hE.out;have h:=aT;refine go ?_;replace h:=oi h;subst h;have a5:=a4.zX (cd.mk a.gen a.kind a.box a.res a.iU a.bh a.wait a.iW a.iR a.mark V.1 a.data a.queue) [0,1,2,3] 3 0 rfl rfl (fun w G hG=>⟨m,f,n,q,p,s,rfl,hG⟩);exact ⟨rfl,⟨⟨rfl,(show (vS (some ⟨c,b,none⟩) t.length k:Value)=vS (some ⟨c,b,none⟩) ((t.set (d.2:Int).toNat (cd.mk a.gen a.kind a.box a.res a.iU a.bh a.wait a.iW a.iR a.mark V.1 a.data a.queue)).length) k by rw [show t.length=(t.set (d.2:Int).toNat (cd.mk a.gen a.kind a.box a.res a.iU a.bh a.wait a.iW a.iR a.mark V.1 a.data a.queue)).length from (iM rfl)]),rfl,rfl,trivial⟩,a5.pk [0]⟩⟩
   refine go ?_;cases oi h;exact ⟨trivial,rfl,(J.po [0])⟩
 rintro e ck ⟨hE,a6⟩;obtain ⟨e,rfl⟩:=hE.out;have h:=aU;refine go ?_;cases h;exact Rc tt tt ⟨(some ⟨c,b,none⟩),k,rfl,a6.pk [0]⟩
theorem Bo {w0} {F:List Nat} {N a aN r} (h:pf N a aN=some r) {A V q} (Z:V=a.ag.length) {k W m} (aa:W=a.gc.ia.length) (hS:St w0 F w0 [sl A q a.ag,sl k m a.gc.ia]) :
    iq Tryz.prog 211 #[.agg #[vS A V q,vI a.gc.phase,vI a.gc.pos,vI a.gc.round,vS k W m],vI aN] w0 (fun v w=>∃ t y, ∃ x z,v=.tuple #[.agg #[vS t r.1.ag.length y,vI r.1.gc.phase,vI r.1.gc.pos,vI r.1.gc.round,vS x r.1.gc.ia.length z],vI r.2]∧St w0 F w [sl t y r.1.ag,sl x z r.1.gc.ia]):=by
 subst Z aa;unfold pf at h;refine iq.fn Tryz.func211 fun e=>?_;refine go ?_;refine LW.bo hS fun X bt aI=>?_;refine LW.al aI fun Y aV ab=>?_;refine gb h fun bu O h=>?_;obtain ⟨aQ,aU,hae,a6,a7⟩:=ab.iJ (α:=cd) (i:=2) rfl O;subst hae;refine go ?_;obtain ⟨aW,s,ac⟩:=ab.freeze (α:=cd) 2 rfl;obtain ⟨a0,a8,aR,hae,aj,_,_,ak,ap⟩:=s.kr.idx O;cases hae;obtain ⟨aX,a2,aY,a3,aZ,a4,rfl,aq,ar,au⟩:=ak;refine LW.l (iC.jH aV kW rfl rfl (fun j u hu=>ap j u hu)) (ac.zC 2 rfl aj) rfl ?_;refine LW.al ac fun a5 ba aJ=>?_;refine LW.st aJ 0 fun bb n=>?_;refine gs ?_;refine CW.region ?_;refine gs ?_;obtain ⟨aM,am,aF⟩:=ob h;refine CW.jn [2,4,6,8] [1,2,3,4] [(33,.bool aM)] n (h1:=?_) (h2:=?_)
 · have h:=am;refine gB h ?_ ?_ <;> intro _ h
   · refine go ?_;refine bH h ?_ ?_ <;> intro _ h
     · refine gb h fun bq av h=>?_;refine go ?_;refine LW.c0 (tT av rfl (n.rZ 3 rfl aq) rfl (n.rZ 3 rfl ar) rfl (n.rZ 3 rfl au)) n fun bc ad=>?_;refine gB h ?_ ?_ <;> intro _ h
       · refine go ?_;cases oi h;exact ad.po [1,2,3,4]
       refine go ?_;cases oi h;exact ad.po [1,2,3,4]
     refine go ?_;cases oi h;exact n.po [1,2,3,4]
   refine go ?_;cases oi h;exact n.po [1,2,3,4]
 intro e bd L;have h:=aF;refine gs ?_;obtain ⟨p,an,aG⟩:=ob h;refine CW.cut (fun e wb=>∃ (c:Ad) (d:Nat),En e [(2,.pointer (some ⟨X,0,none⟩)),(4,.pointer (some ⟨Y,0,none⟩)),(8,vI p.1)]∧St w0 F wb [bx Y 40 [vS none 0 0,vI 0,vI 0,vI 0,vS none 0 0],bx X 40 [vS c p.2.length d,vI a.gc.phase,vI a.gc.pos,vI a.gc.round,vS k a.gc.ia.length m],sl k m a.gc.ia,sl c d p.2]) ?_ ?_
 · have h:=an;refine CW.fl [2,4,6,8,33] fun e=>?_;refine gc h ?_ ?_ <;> intro _ h
   · refine gb h fun br aw h=>?_;refine LW.cl (Br aw rfl (L.rZ 2 rfl s.kr)) ?_;rintro _ be ⟨aD,aE,rfl,hs⟩;have aK:=L.add hs;refine go ?_;refine LW.st aK 2 fun bf aL=>?_;refine go ?_;cases oi h;exact ⟨aD,aE,aL.po [1,2,4,0]⟩
   refine go ?_;have ae:=L.jj (α:=cd) 2 rfl s;have ⟨aO,M,h⟩:=ob h;refine LW.se 9 ae 2 O M (hM:=(kq (fun w cs F hF=>by obtain ⟨ax,aA,ay,aB,az,aC,rfl,hH⟩:=hF;exact ⟨ax,aA,ay,aB,az,aC,rfl,hH⟩))) fun bg G=>?_;refine go ?_;rw [show a.ag.length=aO.length from (iM (oi M))] at G;cases oi h;exact ⟨(some ⟨aQ,aU,none⟩),q,G.po [0,1,3,2]⟩
 rintro e bi ⟨c,d,hE,af⟩;obtain ⟨e,rfl⟩:=hE.out;have h:=aG;refine go ?_;refine LW.st af 1 fun bj H=>?_;refine gs ?_;refine CW.region ?_;refine gs ?_;obtain ⟨o,ao,aH⟩:=ob h;refine CW.cut (fun e wb=>∃ (f:Ad) (g:Nat),En e [(2,.pointer (some ⟨X,0,none⟩)),(4,.pointer (some ⟨Y,0,none⟩)),(8,vI p.1)]∧St w0 F wb [bx Y 40 [vS none 0 0,vI 0,vI 0,vI 0,vS none 0 0],bx X 40 [vS c o.1.length d,vI o.2.1,vI o.2.2.1,vI o.2.2.2.1,vS f o.2.2.2.2.length g],sl c d o.1,sl f g o.2.2.2.2]) ?_ ?_
 · have h:=ao;refine CW.fl [2,4,8,57] fun e=>?_;refine gc h ?_ ?_ <;> intro _ h
   · refine go ?_;refine LW.u (iD.min rfl rfl) rfl ?_;refine LW.jV (α:=Int) (vs:=[(0,vI 0)]) (cs:=#[vI 0]) (l:=([0]:List Int)) rfl (by kernel_rfl) rfl rfl rfl (fun w=>⟨[vI 0],[],[],[],rfl,rfl,⟨rfl,rfl⟩,rfl⟩) H rfl ?_;intro B C bk ah hf;refine LW.u (iD.build (vs:=[(2,vI (if 1000000<IntKind.i64.wrap (a.gc.round+1) then 1000000 else IntKind.i64.wrap (a.gc.round+1))),(3,vS B (([0]:List Int).length) C)]) (cs:=#[vI 0,vI 0,vI (if 1000000<IntKind.i64.wrap (a.gc.round+1) then 1000000 else IntKind.i64.wrap (a.gc.round+1)),vS B (([0]:List Int).length) C]) rfl (by kernel_rfl)) rfl ?_;refine go ?_;refine LW.st ah 2 fun bl I=>?_;refine gb h fun bs R h=>?_;obtain ⟨a1,a9,hae,aS,aT⟩:=I.iJ (α:=cd) (i:=4) rfl R;subst hae;refine go ?_;refine gb h fun aP U h=>?_;refine LW.se 9 I 4 R U (hM:=(kq (fun w cs F hF=>by obtain ⟨ax,aA,ay,aB,az,aC,rfl,hH⟩:=hF;exact ⟨ax,aA,ay,aB,az,aC,rfl,hH⟩))) fun bm J=>?_;refine go ?_;rw [show p.2.length=aP.length from (iM (oi U))] at J;cases oi h;exact ⟨B,C,J.po [1,2,4,0]⟩
   refine go ?_;cases oi h;exact ⟨k,m,H.po [0,1,3,2]⟩
 rintro e bn ⟨f,g,hE,ai⟩;obtain ⟨e,rfl⟩:=hE.out;have h:=aH;refine go ?_;refine LW.st ai 0 fun bp K=>?_;refine go ?_;cases h;exact Rc (ic.b K 0 rfl nD rfl rfl) tt ⟨c,d,f,g,rfl,K.pk [2,3]⟩
theorem Dm {w0 N bt bu d r} (h:rG N bt bu d=some r) {ae aB af} (aG:aB=bt.length) (a:rb w0 ae af bt) :
    iq Tryz.prog 114 #[vS ae aB af,vI bu,.agg #[vI d.res,vI d.jJ,vI d.mf,vI d.kp,vI d.kind,vI d.lk]] w0 (fun v w=>∃ H J,v=.tuple #[vS H r.1.length J,vI r.2]∧St w0 [] w [sl H J r.1]):=by
 subst aG;unfold rG at h;refine iq.fn Tryz.func114 fun e=>?_;have bz:=St.start w0;refine go ?_;refine LW.bo bz fun aD cT aO=>?_;refine gb h fun aM bC h=>?_;refine LW.cl (wZ bC rfl (aO.rB a)) ?_;rintro _ cU ⟨C,I,rfl,hs⟩;have bA:=aO.add hs;refine go ?_;obtain ⟨aT,bb,aN⟩:=ob h;refine CW.mono (CW.lx [0,1,5,8,18,19] [0,1] [0,1,5,8] 0 (fun bE=>[(20,vI bE)]) (fun r x e wb=>x=.ret∧∃ u,u=r∧∃ v,jB Tryz.prog Tryz.f114.results e wb v∧∃ H J,v=.tuple #[vS H u.1.length J,vI u.2]∧St w0 [] wb [sl H J u.1]) bA bb (hb:=?_)) ?_
 · intro bE e cV o au h;refine gc h ?_ ?_ <;> intro _ h
   · refine gb h fun cL bg h=>?_;obtain ⟨cn,cx,bO,rfl,av,bT,bY,⟨cg,cs,rfl,bc⟩,a6⟩:=a.idx bg;refine go ?_;refine LW.l (iC.jH w0 BE rfl rfl (fun j u hu=>a6 j u hu)) (au.same _ av.1 av.2) rfl ?_;refine LW.al au fun cw cC bB=>?_;refine LW.st bB 0 fun cD aP=>?_;refine gb h fun cM bi h=>?_;refine LW.c0 (rh bi rfl (aP.rB bc)) aP fun cE aQ=>?_;refine go ?_;refine CW.fl [0,1,5,8,18,19,20,27] fun e=>?_;refine gc h ?_ ?_ <;> intro _ h
     · refine go ?_;cases oi h;exact ⟨trivial,rfl,_,rfl,ry tt tt ⟨C,I,rfl,aQ.pk [1]⟩⟩
     refine go ?_;cases oi h;exact ⟨rfl,(aQ.po [1,2])⟩
   refine go ?_;cases oi h;exact ⟨trivial,rfl,(au.po [0,1])⟩
 intro x e cF hM;rcases aT with aT | b5
 · obtain ⟨rfl,hM⟩:=hM;obtain ⟨e,rfl,aR⟩:=eo hM;have h:=aN;refine gs ?_;obtain ⟨bD,a5,bw⟩:=ob h;refine CW.jn [0,1,5,8] [0,1] [(63,.bool bD)] aR (h1:=?_) (h2:=?_)
   · have h:=a5;refine CW.draw (by kernel_rfl) ?_;have aS:=aR.drew;refine gB h ?_ ?_ <;> intro a1 h
     · refine go ?_;cases oi h;exact aS.po [0,1]
     refine gb h fun cN bj h=>?_;refine jO 5 ?_;refine (LW.gY (jP rfl rfl a1) ?_);refine LW.cl (xv bj) ?_;rintro _ cG ⟨rfl,hs⟩;have ah:=aS.add hs;refine jn ?_;refine gB h ?_ ?_ <;> intro a2 h
     · refine go ?_;cases oi h;exact ah.po [0,1]
     refine gb h fun cO bk h=>?_;refine jO 13 ?_;refine (LW.gY (jP rfl rfl a2) ?_);refine LW.cl (jE bk) ?_;rintro _ cH ⟨rfl,hs⟩;have n:=ah.add hs;refine jn ?_;refine gB h ?_ ?_ <;> intro _ h
     · refine go ?_;cases oi h;exact n.po [0,1]
     refine gB h ?_ ?_ <;> intro az h
     · refine go ?_;cases oi h;exact n.po [0,1]
     refine gb h fun cP bl h=>?_;obtain ⟨co,cy,bP,rfl,aw,bU,bZ,⟨ci,ct,rfl,bd⟩,a7⟩:=a.idx bl;refine go ?_;refine AW.take (i:=28) rfl (by kernel_rfl) (jP rfl rfl az) rfl (iC.iP w0 zb rfl (a7 0 _ rfl)) (n.same _ aw.1 aw.2) ?_;refine gb h fun cQ bm h=>?_;refine jO 31 ?_;refine (LW.gY (jP rfl rfl az) ?_);refine LW.cl (tm bm rfl (n.rB bd)) ?_;rintro _ cI ⟨rfl,hs⟩;have aV:=n.add hs;refine jn ?_;refine go ?_;cases oi h;exact aV.po [0,1]
   intro e cJ ai;have h:=bw;refine gc h ?_ ?_ <;> intro _ h
   · refine go ?_;cases h;exact Rc tt tt ⟨C,I,rfl,ai.pk [0]⟩
   refine go ?_;refine CW.draw (by kernel_rfl) ?_;have V:=ai.drew;refine gb h fun cR bn h=>?_;obtain ⟨cp,cz,bQ,rfl,y,bV,b0,⟨cj,cu,rfl,be⟩,a8⟩:=a.idx bn;refine go ?_;refine AW.take (i:=5) rfl (by kernel_rfl) rfl rfl (iC.iP w0 zb rfl (a8 0 _ rfl)) (V.same _ y.1 y.2) ?_;refine gb h fun cS bp h=>?_;obtain ⟨cq,cA,bR,rfl,ax,bW,b1,rfl,a9⟩:=be.idx bp;refine go ?_;refine AW.take (i:=10) rfl (by kernel_rfl) rfl rfl (iC.jH w0 kt rfl rfl (fun j u hu=>m5 (m:=3) a9 2 hu)) (V.same _ ax.1 ax.2) ?_;have ⟨aU,bq,h⟩:=ob h;refine jO 11 ?_;refine LW.cl (DN bq) ?_;rintro _ cK ⟨rfl,hs⟩;have s:=V.add hs;refine jN (jW (.c (s.ce 1) (.c (s.same _ y.1 y.2) (jW jZ)))) ?_;refine gb h fun q br h=>?_;refine LW.cl (wZ br rfl (s.rB a)) ?_;rintro _ bF ⟨ck,k,rfl,hs⟩;have aW:=s.add hs;refine go ?_;refine CW.draw (by kernel_rfl) ?_;have aj:=aW.drew;refine gb h fun bG W h=>?_;obtain ⟨g,b,hae,bX,b2⟩:=aj.iJ (α:=iZ) (i:=0) rfl W;subst hae;refine go ?_;obtain ⟨cf,aA,ak⟩:=aj.freeze (α:=iZ) 0 rfl;obtain ⟨cr,cB,bS,hae,ay,_,_,a3,ba⟩:=aA.kr.idx W;cases hae;obtain ⟨cm,cv,rfl,bf⟩:=a3;refine AW.take (i:=4) rfl (by kernel_rfl) rfl rfl (iC.iP bF.drew zb rfl (ba 0 _ rfl)) (ak.zC 0 rfl ay) ?_;refine gb h fun cb aI h=>?_;refine jO 10 ?_;refine LW.cl (uF aI) ?_;rintro _ b6 ⟨rfl,hs⟩;have t:=ak.add hs;refine jN (jW (.c (t.ce 2) (.c (t.zC 0 rfl ay) jZ))) ?_;have ⟨X,aJ,h⟩:=ob h;refine jO 11 ?_;refine LW.cl (yr aJ rfl (t.rZ 0 rfl bf)) ?_;rintro _ b7 ⟨K,R,rfl,hs⟩;have am:=t.add hs;refine jn ?_;refine go ?_;refine CW.fl [1,5,8,11,12,13,95] fun e=>?_
   refine gc h ?_ ?_ <;> intro _ h
   · refine go ?_;cases h;exact Rc tt tt ⟨C,I,rfl,am.pk [2]⟩
   refine go ?_;have aX:=am.jj (α:=iZ) 1 rfl aA;have aY:=aX.pk (M:=[sl K R X.1]++[sl (some ⟨g,b,none⟩) k q,sl C I aM,bx aD 155 (qT d)]) [0,1,2,3];have ⟨B,f,h⟩:=ob h;refine LW.yh (M:=[sl K R X.1]) (L:=[sl (some ⟨g,b,none⟩) k q,sl C I aM,bx aD 155 (qT d)]) (z:=bG) (z':=(iZ.mk X.1)) (o:=0) aY (i:=0) rfl W zb rfl (by show _=b+(bu:Int).toNat * 1+0;omega) rfl rfl rfl rfl (whole (fun w G hG=>⟨K,R,rfl,hG⟩)) ?_;intro bs an hf;rw [oi f] at an;refine go ?_;refine CW.draw (by kernel_rfl) ?_;have ao:=an.drew;refine gb h fun bv A h=>?_;obtain ⟨bL,b3,hae,ab,ac⟩:=ao.iJ (α:=iZ) (i:=0) rfl A;cases hae;(try refine AW.ux (i:=3) (by decide +kernel) rfl (by kernel_rfl) rfl rfl (iD.ix Tryz.underlying151 BD rfl rfl ab (by rw [show q.length=B.length from (iM (oi f))];exact ac)) ?_);refine go ?_;obtain ⟨bJ,aa,ap⟩:=ao.freeze (α:=iZ) 0 rfl;obtain ⟨bM,b4,bI,hae,Z,_,_,aE,aF⟩:=aa.kr.idx A;cases hae;obtain ⟨bK,bN,rfl,aH⟩:=aE;refine AW.take (i:=5) rfl (by kernel_rfl) rfl rfl (iC.iP bs.drew zb rfl (aF 0 _ rfl)) (ap.zC 0 rfl Z) ?_;refine gb h fun cc aK h=>?_;refine jO 11 ?_;refine LW.cl (uF aK) ?_;rintro _ b8 ⟨rfl,hs⟩;have p:=ap.add hs;refine jN (jW (.c (p.ce 2) (.c (p.zC 0 rfl Z) (.c (p.ce 2) jZ)))) ?_;have ⟨Y,aL,h⟩:=ob h;refine jO 12 ?_;refine LW.cl (xH aL rfl (p.rZ 0 rfl aH)) ?_;rintro _ b9 ⟨O,U,rfl,hs⟩;have aq:=p.add hs;refine jn ?_;refine gc h ?_ ?_ <;> intro _ h
   · refine go ?_;cases h;exact Rc tt tt ⟨C,I,rfl,aq.pk [2]⟩
   refine go ?_;(try refine LW.u (iD.ix Tryz.underlying151 BD rfl rfl ab (by rw [show q.length=B.length from (iM (oi f))];exact ac)) rfl ?_);refine go ?_;have aZ:=aq.jj (α:=iZ) 1 rfl aa;have a0:=aZ.pk (M:=[sl O U Y.1]++[sl (some ⟨g,b,none⟩) k B,sl C I aM,bx aD 155 (qT d)]) [0,1,2,3];have ⟨aC,ad,h⟩:=ob h;refine LW.yh (M:=[sl O U Y.1]) (L:=[sl (some ⟨g,b,none⟩) k B,sl C I aM,bx aD 155 (qT d)]) (z:=bv) (z':=(iZ.mk Y.1)) (o:=0) a0 (i:=0) rfl A zb rfl (by show _=b+(d.jJ:Int).toNat * 1+0;omega) rfl rfl rfl rfl (whole (fun w G hG=>⟨O,U,rfl,hG⟩)) ?_;intro ca ar hf;rw [oi ad] at ar;refine go ?_;replace h:=oi h;subst h;exact Rc tt tt ⟨(some ⟨g,b,none⟩),k,(show (.tuple #[vS (some ⟨g,b,none⟩) q.length k,vI aU]:Value)=.tuple #[vS (some ⟨g,b,none⟩) aC.length k,vI aU] by rw [show q.length=aC.length from ((iM (oi f)).trans (iM (oi ad)))]),ar.pk [0]⟩
 obtain ⟨rfl,u,rfl,hM⟩:=hM;cases aN;exact And.intro trivial hM
theorem vd {w0 N a bf bg r} (h:qM N a bf bg=some r) {q aB z} (aL:aB=a.label.levels.length) (aj:rb w0 q z a.label.levels) {s aC A} (aM:aC=a.own.length) (ak:rb w0 s A a.own) {t aD B} (aN:aD=a.tree.length) (am:rb w0 t B a.tree) {m aE n} (aO:aE=a.heap.ag.length) (f:rb w0 m n a.heap.ag) {x aF C} (aP:aF=a.heap.gc.ia.length) (an:rb w0 x C a.heap.gc.ia) {y aG G} (aQ:aG=a.ij.length) (ao:rb w0 y G a.ij) :
    iq Tryz.prog 54 #[.agg #[vS q aB z,vS s aC A,vS t aD B,vS m aE n,vI a.heap.gc.phase,vI a.heap.gc.pos,vI a.heap.gc.round,vS x aF C,vS y aG G,vI a.next,vI a.want,vI a.gE.bh,vI a.gE.ib,vI a.gE.ik,vI a.iH,vI a.lost],vI bf,vI bg] w0 (fun v w=>∃ O ac, ∃ R ad, ∃ U ae, ∃ V af, ∃ W ah, ∃ X ai,v=.agg #[vS O r.label.levels.length ac,vS R r.own.length ad,vS U r.tree.length ae,vS V r.heap.ag.length af,vI r.heap.gc.phase,vI r.heap.gc.pos,vI r.heap.gc.round,vS W r.heap.gc.ia.length ah,vS X r.ij.length ai,vI r.next,vI r.want,vI r.gE.bh,vI r.gE.ib,vI r.gE.ik,vI r.iH,vI r.lost]∧St w0 [] w [sl O ac r.label.levels,sl R ad r.own,sl U ae r.tree,sl V af r.heap.ag,sl W ah r.heap.gc.ia,sl X ai r.ij]):=by
 subst aL aM aN aO aP aQ;unfold qM at h;refine iq.fn Tryz.func54 fun e=>?_;have bn:=St.start w0;refine go ?_;refine LW.bo bn fun bi cm bp=>?_;refine LW.al bp fun bj cn g=>?_;refine gb h fun c bt h=>?_;refine LW.cl (pR bt rfl (g.rB aj) rfl (g.rB ak) rfl (g.rB am) rfl (g.rB f) rfl (g.rB an) rfl (g.rB ao)) ?_;rintro _ bX ⟨aH,aJ,aI,aK,J,Y,K,Z,L,aa,M,ab,rfl,hs⟩;have bq:=g.add hs;refine LW.al bq fun aR bY br=>?_;refine LW.st br 0 fun bZ d=>?_;refine gs ?_;obtain ⟨bu,aX,bk⟩:=ob h;refine CW.jn [1,2,3,6,7] [0,1,2,3,4,5,6,7,8] [(19,.bool bu)] d (h1:=?_) (h2:=?_)
 · have h:=aX;refine gb h fun ce a3 h=>?_;refine LW.c0 (rf a3 rfl (d.rB aj) rfl (d.rB ak) rfl (d.rB am) rfl (d.rB f) rfl (d.rB an) rfl (d.rB ao)) d fun b0 aS=>?_;refine gB h ?_ ?_ <;> intro _ h
   · refine go ?_;cases oi h;exact aS.po [0,1,2,3,4,5,6,7,8]
   refine gb h fun cf a4 h=>?_;refine go ?_;refine LW.c0 (zJ a4) aS fun b1 bs=>?_;refine go ?_;cases oi h;exact bs.po [0,1,2,3,4,5,6,7,8]
 intro e b2 aT;have h:=bk;refine gc h ?_ ?_ <;> intro _ h
 · refine go ?_;refine LW.st aT 7 fun b3 ap=>?_;refine go ?_;cases h;exact And.intro trivial ⟨_,jB.one (ic.b ap 7 rfl jz rfl rfl),aH,aJ,aI,aK,J,Y,K,Z,L,aa,M,ab,rfl,ap.pk [1,2,3,4,5,6]⟩
 refine go ?_;obtain ⟨bW,a0,bm⟩:=ob h;refine CW.ie a0 0 (fun k e wb=>En e [(1,vI bf),(2,vI bg),(3,.pointer (some ⟨bi,0,none⟩)),(6,.pointer (some ⟨bj,0,none⟩)),(7,.pointer (some ⟨aR,0,none⟩)),(23,vS m a.heap.ag.length n),(24,vI (a.heap.ag.length:Int)),(25,vI k.2)]∧St w0 [] wb [bx aR 45 [vS aH c.label.levels.length aJ,vS aI c.own.length aK,vS J c.tree.length Y,vS K k.1.length Z,vI c.heap.gc.phase,vI c.heap.gc.pos,vI c.heap.gc.round,vS L c.heap.gc.ia.length aa,vS M c.ij.length ab,vI c.next,vI c.want,vI c.gE.bh,vI c.gE.ib,vI c.gE.ik,vI c.iH,vI c.lost],sl aH aJ c.label.levels,sl aI aK c.own,sl J Y c.tree,sl K Z k.1,sl L aa c.heap.gc.ia,sl M ab c.ij,bx bj 45 [vS none 0 0,vS none 0 0,vS none 0 0,vS none 0 0,vI 0,vI 0,vI 0,vS none 0 0,vS none 0 0,vI 0,vI 0,vI 0,vI 0,vI 0,vI 0,vI 0],bx bi 45 (qP q z s A t B m n x C y G a)]) ?_ (aT.po [0,1,2,3,4,5,6,7,8]) ?_
 · intro k e b4 o hM h;obtain ⟨e,rfl,H⟩:=eo hM;refine gc h ?_ ?_ <;> intro _ h
   · refine gb h fun cg a5 h=>?_;obtain ⟨bM,bT,bA,rfl,ax,bB,bD,⟨bJ,bP,bK,bQ,bL,bR,rfl,bF,bG,bI⟩,aZ⟩:=f.idx a5;refine go ?_;refine LW.l (iC.jH w0 kW rfl rfl (fun j u hu=>aZ j u hu)) (H.same _ ax.1 ax.2) rfl ?_;refine LW.al H fun bS b5 aU=>?_;refine go ?_;refine LW.st aU 0 fun b6 p=>?_;refine gs ?_;obtain ⟨bv,aY,bl⟩:=ob h;refine CW.jn [1,2,3,6,7,8,23,24,25] [1,2,3,4,5,6,7,8,9] [(44,.bool bv)] p (h1:=?_) (h2:=?_)
     · have h:=aY;refine gB h ?_ ?_ <;> intro _ h
       · refine go ?_;have ⟨ci,a7,h⟩:=ob h;refine go ?_;refine LW.c0 (Cb a7 rfl (p.rB f)) p fun b7 aV=>?_;refine go ?_;cases oi h;exact aV.po [1,2,3,4,5,6,7,8,9]
       refine go ?_;cases oi h;exact p.po [1,2,3,4,5,6,7,8,9]
     intro e b8 aq;have h:=bl;refine go ?_;refine CW.fl [1,2,3,6,7,8,23,24,25,44] fun e=>?_;refine gc h ?_ ?_ <;> intro _ h
     · refine CW.draw (by kernel_rfl) ?_;have ar:=aq.drew;refine gb h fun cj ay h=>?_;obtain ⟨bN,bU,hae,bC,bE⟩:=ar.iJ (α:=cd) (i:=4) rfl ay;subst hae;refine go ?_;refine gb h fun bw I h=>?_;refine jO 10 ?_;refine LW.se 6 ar 4 ay I (hM:=(kq (fun w cs F hF=>by obtain ⟨a9,bc,ba,bd,bb,be,rfl,hH⟩:=hF;exact ⟨a9,bc,ba,bd,bb,be,rfl,hH⟩))) fun b9 au=>?_;refine jn ?_;have ⟨ck,az,h⟩:=ob h;obtain ⟨bO,bV,hae,a1,a2⟩:=au.iJ (α:=cd) (i:=4) rfl az;cases hae;(try refine AW.ux (i:=11) (by decide +kernel) rfl (by kernel_rfl) rfl rfl (iD.ix Tryz.underlying36 z6 rfl rfl a1 (by rw [show k.1.length=bw.length from (iM (oi I))];exact a2)) ?_);refine gb h fun bz aA h=>?_;refine jO 13 ?_;refine LW.se 7 au 4 az aA (hM:=(kq (fun w cs F hF=>by obtain ⟨a9,bc,ba,bd,bb,be,rfl,hH⟩:=hF;exact ⟨a9,bc,ba,bd,bb,be,rfl,hH⟩))) fun ca av=>?_;refine jn ?_;refine go ?_;rw [show k.1.length=bz.length from ((iM (oi I)).trans (iM (oi aA)))] at av;cases oi h;exact ⟨rfl,(av.po [0,1,2,3,4,5,6,7,8])⟩
     refine go ?_;cases oi h;exact ⟨rfl,(aq.po [0,1,2,3,4,5,6,7,8])⟩
   refine go ?_;cases oi h;exact ⟨trivial,rfl,(H.po [0,1,2,3,4,5,6,7,8])⟩
 rintro e cb ⟨hE,aW⟩;obtain ⟨e,rfl⟩:=hE.out;have h:=bm;refine go ?_;refine LW.st aW 7 fun cc aw=>?_;refine go ?_;cases h;exact And.intro trivial ⟨_,jB.one (ic.b aw 7 rfl jz rfl rfl),aH,aJ,aI,aK,J,Y,K,Z,L,aa,M,ab,rfl,aw.pk [1,2,3,4,5,6]⟩
end Go.Kx
