import Derived.Test.YtlcgibcdiikheaaGreatWa38
import Derived.Test.YtlcgibcdiikheaaGreatWa39
namespace Go.Kx
open Go Go.RowKit Go.Proofs
open Tryz
set_option maxRecDepth 10000
set_option maxHeartbeats 8000000
set_option linter.unusedVariables false
set_option linter.unusedSimpArgs false
theorem rr {w0 N ay d r} (h:mH N ay d=some r) {X ai Y} (ak:ai=ay.length) (R:rb w0 X Y ay) {f U k} (ac:U=d.g5.length) (aF:rb w0 f k d.g5) {g V l} (ad:V=d.HI.length) (aG:rb w0 g l d.HI) {j W m} (ae:W=d.HE.length) (aH:rb w0 j m d.HE) :
    gZ prog 264 #[vS X ai Y,.agg #[vI d.HR,vI d.HA,vI d.box,vI d.HP,vI d.iK,vI d.gE,vI d.HK,vI d.iF,vI d.iE,.bool d.HM,vS f U k,vS g V l,vS j W m]] w0 (fun v w=>∃ B K,v=.tuple #[vS B r.1.length K,vI r.2]∧St w0 [] w [sl B K r.1]):=by
 subst ak ac ad ae;unfold mH at h;refine gZ.fn func264 fun e=>?_;have bs:=St.start w0;refine T ?_;intro aA bW bt az bB h bV Z bX bu bZ bC h bY aD;refine gc h ?_ ?_<;>intro _ h
 · exact rt
 refine go ?_;obtain ⟨ao,av,an⟩:=ob h;refine CW.mono (CW.lx [0,3,6] [0,1] [6] 0 (fun O=>[(7,vI O)]) (fun r x e wb=>x=.ret∧∃ u,u=r∧∃ v,jM prog f264.results e wb v∧∃ B K,v=.tuple #[vS B u.1.length K,vI u.2]∧St w0 [] wb [sl B K u.1]) aD av (hb:=?_)) ?_
 · intro O e bG o aE h;refine kI [0,3,6,7,18] fun e=>?_;refine gc h ?_ ?_<;>intro _ h
   · refine gs ?_;refine CW.block ?_;refine gs ?_;obtain ⟨aI,ar,aB⟩:=ob h;refine CW.jn [0,3,6,7] [0,1] [(34,.bool aI)] aE (h1:=?_) (h2:=?_)
     · have h:=ar;refine gb h fun bS aw h=>?_;obtain ⟨bj,bD,aM,rfl,aR,aV,aY,⟨bb,bl,bc,bm,bd,bn,rfl,a1,a2,a3⟩,aT⟩:=R.idx aw;refine go ?_;refine T ?_;refine bH h ?_ ?_<;>intro _ h
       · exact rt
       refine go ?_;refine T ?_;exact rt
     intro e bI bv;have h:=aB;refine gc h ?_ ?_<;>intro _ h
     · exact rt
     refine T ?_;intro b a8 h p H q I A J bJ bw am bK bz bL bA;have ⟨aj,ax,h⟩:=ob h;obtain ⟨bk,bE,aN,rfl,aS,aW,aZ,⟨be,bo,bf,bp,bg,bq,rfl,a5,a6,a7⟩,aU⟩:=R.idx ax;refine go ?_;refine T ?_;intro bM aa;have ⟨aK,af,h⟩:=ob h;obtain ⟨C,n,hae,aX,a0⟩:=aa.im (α:=cd) (i:=4) rfl af;subst hae;refine go ?_;have ap:=aa.pk (M:=[sl p H b.g5,sl q I b.HI,sl A J b.HE]++[bx am 101 [vI (IntKind.i64.wrap (aj.HR+1)),vI b.HA,vI b.box,vI b.HP,vI b.iK,vI b.gE,vI b.HK,vI b.iF,vI b.iE,.bool b.HM,vS p b.g5.length H,vS q b.HI.length I,vS A b.HE.length J],sl (some ⟨C,n,none⟩) Z az,bx aA 101 (qO f k g l j m d)]) [1,2,3,0,4,5];have ⟨aL,ah,h⟩:=ob h;refine LW.vR (M:=[sl p H b.g5,sl q I b.HI,sl A J b.HE]) (L:=[bx am 101 [vI (IntKind.i64.wrap (aj.HR+1)),vI b.HA,vI b.box,vI b.HP,vI b.iK,vI b.gE,vI b.HK,vI b.iF,vI b.iE,.bool b.HM,vS p b.g5.length H,vS q b.HI.length I,vS A b.HE.length J],sl (some ⟨C,n,none⟩) Z az,bx aA 101 (qO f k g l j m d)]) (z:=aK) (z':=(cd.mk (IntKind.i64.wrap (aj.HR+1)) b.HA b.box b.HP b.iK b.gE b.HK b.iF b.iE b.HM b.g5 b.HI b.HE)) (o:=0) ap (i:=1) rfl af vt rfl (by show _=n+(O:Int).toNat * 13+0;omega) rfl rfl rfl rfl (whole (fun w G hG=>⟨p,H,q,I,A,J,rfl,hG⟩)) ?_;intro bN ab hf;rw [oi ah] at ab;refine gs ?_;obtain ⟨aJ,au,aC⟩:=ob h;refine CW.jn [0,6,7] [1] [(55,.bool aJ)] ab (h1:=?_) (h2:=?_)
     · have h:=au;refine T ?_;intro bT a9 h bO aO;refine bH h ?_ ?_<;>intro _ h
       · exact rt
       exact rt
     intro e bP aq;have h:=aC;refine kI [0,6,7,55] fun e=>?_;refine gc h ?_ ?_<;>intro _ h
     · refine T ?_;intro bU ba h bi br bQ aP;exact rt
     refine go ?_;replace h:=oi h;subst h;exact ⟨trivial,rfl,_,rfl,ry tt tt ⟨(some ⟨C,n,none⟩),Z,(show (.tuple #[vS (some ⟨C,n,none⟩) az.length Z,vI O]:Value)=.tuple #[vS (some ⟨C,n,none⟩) aL.length Z,vI O] by rw [ik (oi ah)]),aq.pk [0]⟩⟩
   exact rt
 intro x e bR hM;rcases ao with ao | bF
 · obtain ⟨rfl,hM⟩:=hM;obtain ⟨e,rfl,aQ⟩:=eo hM;have h:=an;exact rt
 obtain ⟨rfl,u,rfl,hM⟩:=hM;cases an;exact And.intro trivial hM
instance k_264:Ct prog 264:=⟨by kernel_rfl,@rr⟩
theorem wj {w0 N k r} (h:oo N k=some r) {d m f} (n:m=k.length) (i:rb w0 d f k) :
    gZ prog 46 #[vS d m f] w0 (fun v w=>v=.bool r∧St w0 [] w []):=by
 subst n;unfold oo at h;refine gZ.fn func46 fun e=>?_;have aO:=St.start w0;refine jj [] #[vI 0,vI 0,vI 0] ?_;refine T ?_;intro l bf aP bg J;refine go ?_;obtain ⟨q,B,p⟩:=ob h;refine CW.it B (fun b e wb=>En e [(0,vS d k.length f),(3,.pointer (some ⟨l,0,none⟩)),(4,vI b.1)]∧St w0 [] wb [bx l 48 [vI b.2.1,vI b.2.2.1,vI b.2.2.2]]) (fun o x e wb=>match o with | .inl b=>x=.exit 0∧En e [(0,vS d k.length f)]∧St w0 [] wb [bx l 48 [vI b.2.1,vI b.2.2.1,vI b.2.2.2]] | .inr r=>x=.ret∧∃ u,u=r∧∃ v,jM prog f46.results e wb v∧v=.bool u∧St w0 [] wb []) ?_ (J.po [0]) ?_
 · intro b e bi o hM h;obtain ⟨e,rfl,K⟩:=eo hM;refine gs ?_;obtain ⟨aB,O,W⟩:=ob h;refine CW.jn [0,3,4] [0] [(15,.bool aB)] K (h1:=?_) (h2:=?_)
   · have h:=O;refine gB h ?_ ?_<;>intro _ h
     · exact rt
     exact rt
   intro e bj L;have h:=W;refine gc h ?_ ?_<;>intro _ h
   · refine gs ?_;refine CW.block ?_;refine gs ?_;obtain ⟨R,z,H⟩:=ob h;refine CW.jn [0,3,4] [0] [(33,.bool R)] L (h1:=?_) (h2:=?_)
     · have h:=z;refine gb h fun a9 C h=>?_;obtain ⟨aG,aT,U,rfl,ai,an,ap,⟨aC,aI,aD,aJ,rfl,ar,au⟩,ak⟩:=i.idx C;refine go ?_;refine T ?_;intro ba ax h aW aQ;refine bH h ?_ ?_<;>intro _ h
       · exact rt
       refine go ?_;refine T ?_;intro bb ay h aX aR;exact rt
     intro e aY M;have h:=H;refine gc h ?_ ?_<;>intro _ h
     · exact rt
     refine gs ?_;obtain ⟨j,A,I⟩:=ob h;refine CW.cut (fun e wb=>∃ (g:Nat),En e [(0,vS d k.length f),(3,.pointer (some ⟨l,0,none⟩)),(4,vI b.1),(5,.pointer (some ⟨g,0,none⟩)),(6,.bool j.2.2.2)]∧St w0 [] wb [bx l 48 [vI b.2.1,vI b.2.2.1,vI b.2.2.2],bx g 48 [vI j.1,vI j.2.1,vI j.2.2.1]]) ?_ ?_
     · have h:=A;refine dW ?_;have aS:=M.drew;refine gb h fun bc G h=>?_;obtain ⟨aH,aU,V,rfl,aj,ao,aq,⟨aE,aK,aF,aL,rfl,av,aw⟩,am⟩:=i.idx G;refine go ?_;refine T ?_;have ⟨bd,az,h⟩:=ob h;refine AW.all (rs:=[6,10]) (by kernel_rfl) (by simp) ⟨?_,?_,trivial⟩
       · refine oA ?_;refine T ?_;intro aZ X aM a0 Y a1 Z;exact rt
       refine oA ?_;refine T ?_;intro aN a2 aa;refine jP 6 ?_;refine T ?_;intro a3 ab a4 ac;exact rt
     rintro e a5 ⟨g,hE,ad⟩;obtain ⟨e,rfl⟩:=hE.out;have h:=I;refine gc h ?_ ?_<;>intro _ h
     · exact rt
     refine T ?_;intro a6 ae;exact rt
   exact rt
 intro x e a7 hM;rcases q with q | aV
 · obtain ⟨rfl,hM⟩:=hM;obtain ⟨e,rfl,af⟩:=eo hM;have h:=p;refine T ?_;intro be aA h a8 ah;exact rt
 obtain ⟨rfl,u,rfl,hM⟩:=hM;cases p;exact And.intro trivial hM
instance k_46:Ct prog 46:=⟨by kernel_rfl,@wj⟩
theorem zI {w0} {F:List Nat} {N Z r} (h:nb N Z=some r) {W:Nat} {C H} (O:iy (ja w0 F) w0 C H Z.b) (hS:St w0 F w0 [bx W 177 [vS C Z.b.length H,vI Z.i,vI Z.h]]) :
    gZ prog 211 #[.pointer (some ⟨W,0,none⟩)] w0 (fun v w=>∃ a3 a5,v=vS a3 r.1.length a5∧St w0 F w [sl a3 a5 r.1,bx W 177 [vS C Z.b.length H,vI r.2.i,vI r.2.h]]):=by
 unfold nb at h;refine gZ.fn func211 fun e=>?_;refine go ?_;refine LW.b0 (α:=iu) hS ?_;intro bR bS cR bT hf;refine go ?_;refine LW.bi [0,0,0,0] bT ?_;intro av aw cS bU hf;refine LW.bd [(0,vS av (([0,0,0,0]:List Int).length) aw)] #[vS av (([0,0,0,0]:List Int).length) aw] ?_;refine LW.al bU fun aa cT bV=>?_;refine LW.st bV 0 fun cU bW=>?_;refine gb h fun a7 bO h=>?_;obtain ⟨cP,ao⟩:=bW.lf [3] [0,1,2];refine LW.cl (mr bO (ao.rB O) ao.st) ?_;rintro _ cQ ⟨rfl,hs⟩;have bX:=ao.back _ _ hs;refine go ?_;have bY:=bX.pk (M:=[sl bR bS ([]:List iu),sl av aw ([0,0,0,0]:List Int)]++[bx W 177 [vS C Z.b.length H,vI a7.2.i,vI a7.2.h],bx aa 39 [vS av (([0,0,0,0]:List Int).length) aw]]) [3,2,0,1];have bZ:=bY.DX;obtain ⟨cm,aR,bk⟩:=ob h;refine CW.ie aR 0 (fun n e wb=>∃ (j:Ad) (k:Nat) (I:Ad) (J:Nat),En e [(0,.pointer (some ⟨W,0,none⟩)),(3,vS j n.1.length k),(4,.pointer (some ⟨aa,0,none⟩)),(5,vI n.2.1)]∧St w0 F wb [bx W 177 [vS C Z.b.length H,vI n.2.2.1,vI n.2.2.2.1],bx aa 39 [vS I n.2.2.2.2.length J],al (sl j k n.1) I J n.2.2.2.2]) ?_ ⟨bR,bS,av,aw,bZ.po [1,2,0]⟩ ?_
 · intro n e co o hM h;obtain ⟨j,k,I,J,hE,a6⟩:=hM;obtain ⟨e,rfl⟩:=hE.out;refine kI [0,3,4,5,15] fun e=>?_;refine gc h ?_ ?_<;>intro _ h
   · refine gb h fun d aT h=>?_;obtain ⟨b5,ac⟩:=a6.lf [0] [1,2];refine LW.cl (uV aT (ac.rB O) ac.st) ?_;rintro _ cp ⟨a8,bb,U,V,rfl,hs⟩;have b1:=ac.back _ _ hs;refine LW.al b1 fun K cq bl=>?_;refine LW.st bl 0 fun cr bm=>?_;refine gb h fun aF aU h=>?_;obtain ⟨b6,ad⟩:=bm.lf [3] [0,1,2,4,5];refine LW.cl (pV aU (ad.rB O) ad.st) ?_;rintro _ cs ⟨rfl,hs⟩;have ax:=ad.back _ _ hs;refine gs ?_;obtain ⟨p,aM,bf⟩:=ob h;refine CW.cut (fun e wb=>∃ (X:Ad) (Y:Nat) (f:Ad) (g:Nat),En e [(0,.pointer (some ⟨W,0,none⟩)),(3,vS j n.1.length k),(4,.pointer (some ⟨aa,0,none⟩)),(5,vI n.2.1),(6,.pointer (some ⟨K,0,none⟩))]∧St w0 F wb [bx W 177 [vS C Z.b.length H,vI aF.2.i,vI aF.2.h],bx K 108 [vS f p.2.length g,vS U d.1.own.length V,vI d.1.i7.gE,vI d.1.i7.gV,vI d.1.i7.hY],sl U V d.1.own,bx aa 39 [vS X p.1.length Y],al (sl j k n.1) X Y p.1,sl f g p.2]) ?_ ?_
     · have h:=aM;refine gc h ?_ ?_<;>intro _ h
       · refine go ?_;refine LW.b0 (α:=Int) ax ?_;intro ce ci ct bn hf;refine go ?_;obtain ⟨b7,aQ,aS,ay⟩:=bn.Ea 6 rfl;refine gb h fun aG aV h=>?_;refine LW.jw (l:=([]:List Int)) (m:=n.2.2.2.2) mX rfl rfl (ay.rZ 6 rfl aS) aV ay (i:=0) rfl rfl ?_;intro ak an cu bo hf;refine LW.bd [(0,vS ak aG.length an)] #[vS ak aG.length an] ?_;refine rQ bo 2 fun cv bp=>?_;refine go ?_;have bq:=bp.F8 6 rfl aQ;cases oi h;exact ⟨I,J,ak,an,bq.po [1,2,4,5,6,0]⟩
       refine go ?_;cases oi h;exact ⟨I,J,a8,bb,ax.po [0,1,3,4,5,2]⟩
     rintro e cw ⟨X,Y,f,g,hE,br⟩;obtain ⟨e,rfl⟩:=hE.out;have h:=bf;refine rQ br 3 fun cx bs=>?_;refine gb h fun cL aW h=>?_;obtain ⟨b8,ae⟩:=bs.lf [0] [1,2,3,4,5];refine LW.cl (pV aW (ae.rB O) ae.st) ?_;rintro _ cy ⟨rfl,hs⟩;have az:=ae.back _ _ hs;refine gs ?_;obtain ⟨R,aN,bg⟩:=ob h;refine CW.cut (fun e wb=>∃ (q:Ad) (x:Nat),En e [(0,.pointer (some ⟨W,0,none⟩)),(3,vS j n.1.length k),(4,.pointer (some ⟨aa,0,none⟩)),(5,vI n.2.1),(6,.pointer (some ⟨K,0,none⟩))]∧St w0 F wb [bx W 177 [vS C Z.b.length H,vI R.1,vI R.2.1],bx K 108 [vS f p.2.length g,vS U d.1.own.length V,vI d.1.i7.gE,vI d.1.i7.gV,vI d.1.i7.hY],sl U V d.1.own,bx aa 39 [vS q R.2.2.length x],sl j k n.1,al (sl f g p.2) q x R.2.2]) ?_ ?_
     · have h:=aN;refine gc h ?_ ?_<;>intro _ h
       · refine gb h fun aH aX h=>?_;obtain ⟨b9,af⟩:=az.lf [0] [1,2,3,4,5];refine LW.cl (mr aX (af.rB O) af.st) ?_;rintro _ cz ⟨rfl,hs⟩;have bt:=af.back _ _ hs;refine go ?_;refine LW.b0 (α:=Int) bt ?_;intro cf cj cA aA hf;refine gb h fun aI aY h=>?_;refine LW.jw (l:=([]:List Int)) (m:=p.2) mX rfl rfl (aA.rI 6 rfl) aY aA (i:=0) rfl rfl ?_;intro au ab cB bu hf;refine LW.bd [(0,vS au aI.length ab)] #[vS au aI.length ab] ?_;refine LW.st bu 4 fun bP bv=>?_;refine kG ?_;have aB:=bv.drew;refine gb h fun cM aj h=>?_;obtain ⟨am,ap,hae,b3,b4⟩:=aB.im (α:=Int) (i:=0) rfl aj;subst hae;refine go ?_;obtain ⟨ca,aq,aC⟩:=aB.freeze (α:=Int) 0 rfl;obtain ⟨cg,ck,b2,hae,aK,_,_,aL,aP⟩:=aq.jB.idx aj;cases hae;obtain rfl:=aL;refine AW.tk 7 rfl (jb.j7 bP.drew lA rfl (aP 0 _ rfl)) (aC.zC 0 rfl aK) ?_;refine go ?_;refine AW.u (i:=9) rfl (by kernel_rfl) rfl rfl (iI.min rfl rfl) ?_;refine go ?_;have bw:=aC.iH (α:=Int) 0 rfl aq;have ⟨aJ,ar,h⟩:=ob h;refine jO 11 ?_;refine LW.se 0 bw 0 aj ar (hM:=tG) fun cC aD=>?_;refine jn ?_;refine go ?_;rw [ik (oi ar)] at aD;have bz:=aD.pk (M:=[sl f g p.2,sl (some ⟨am,ap,none⟩) ab aJ]++[bx W 177 [vS C Z.b.length H,vI aH.2.i,vI aH.2.h],bx K 108 [vS f p.2.length g,vS U d.1.own.length V,vI d.1.i7.gE,vI d.1.i7.gV,vI d.1.i7.hY],sl U V d.1.own,bx aa 39 [vS (some ⟨am,ap,none⟩) aJ.length ab],al (sl j k n.1) X Y p.1]) [6,0,1,2,3,4,5];have bA:=bz.DX;have bB:=bA.yA 5 rfl;cases oi h;exact ⟨(some ⟨am,ap,none⟩),ab,bB.po [1,2,3,4,5,0]⟩
       refine go ?_;have bC:=az.Fc (α:=Int) 5 rfl;have bD:=bC.yA 4 rfl;cases oi h;exact ⟨f,g,bD.po [0,1,2,3,4,5]⟩
     rintro e cD ⟨q,x,hE,bE⟩;obtain ⟨e,rfl⟩:=hE.out;have h:=bg;refine gb h fun cN aZ h=>?_;obtain ⟨cb,ah⟩:=bE.lf [0] [1,2,3,4,5];refine LW.cl (pV aZ (ah.rB O) ah.st) ?_;rintro _ cE ⟨rfl,hs⟩;have aE:=ah.back _ _ hs;refine gs ?_;obtain ⟨B,aO,bj⟩:=ob h;refine CW.cut (fun e wb=>∃ (z:Ad) (A:Nat),En e [(0,.pointer (some ⟨W,0,none⟩)),(3,vS j n.1.length k),(4,.pointer (some ⟨aa,0,none⟩)),(5,vI n.2.1),(6,.pointer (some ⟨K,0,none⟩))]∧St w0 F wb [bx W 177 [vS C Z.b.length H,vI B.1,vI B.2.1],bx K 108 [vS f p.2.length g,vS z B.2.2.length A,vI d.1.i7.gE,vI d.1.i7.gV,vI d.1.i7.hY],bx aa 39 [vS q R.2.2.length x],sl j k n.1,al (sl f g p.2) q x R.2.2,sl z A B.2.2]) ?_ ?_
     · have h:=aO;refine CW.fl [0,3,4,5,6,52] fun e=>?_;refine gc h ?_ ?_<;>intro _ h
       · refine gb h fun bQ a0 h=>?_;obtain ⟨cc,ai⟩:=aE.lf [0] [1,2,3,4,5];refine LW.cl (mr a0 (ai.rB O) ai.st) ?_;rintro _ cF ⟨rfl,hs⟩;have bF:=ai.back _ _ hs;refine LW.bi [bQ.1] bF ?_;intro a9 bc cG bG hf;refine rQ bG 2 fun cH bI=>?_;refine go ?_;cases oi h;exact ⟨a9,bc,bI.po [1,2,4,5,6,0]⟩
       refine go ?_;cases oi h;exact ⟨U,V,aE.po [0,1,3,4,5,2]⟩
     rintro e cI ⟨z,A,hE,bJ⟩;obtain ⟨e,rfl⟩:=hE.out;have h:=bj;refine go ?_;have bK:=bJ.pk (M:=[al (sl f g p.2) q x R.2.2,sl z A B.2.2]++[bx W 177 [vS C Z.b.length H,vI B.1,vI B.2.1],bx K 108 [vS f p.2.length g,vS z B.2.2.length A,vI d.1.i7.gE,vI d.1.i7.gV,vI d.1.i7.hY],bx aa 39 [vS q R.2.2.length x],sl j k n.1]) [4,5,0,1,2,3];have ⟨cO,a2,h⟩:=ob h;refine LW.Ge (M:=[sl z A B.2.2]) (L:=[bx W 177 [vS C Z.b.length H,vI B.1,vI B.2.1],bx K 108 [vS f p.2.length g,vS z B.2.2.length A,vI d.1.i7.gE,vI d.1.i7.gV,vI d.1.i7.hY],bx aa 39 [vS q R.2.2.length x],sl j k n.1]) (vs:=#[vS f p.2.length g,vS z B.2.2.length A,vI d.1.i7.gE,vI d.1.i7.gV,vI d.1.i7.hY]) (i:=3) EW rfl (by kernel_rfl) rfl rfl a2 bK rfl (fun w G hG=>⟨f,g,z,A,rfl,hG⟩) rfl rfl ?_;intro cn ba be cJ bL hf;refine go ?_;cases oi h;exact ⟨rfl,⟨ba,be,q,x,bL.po [0,2,3]⟩⟩
   refine go ?_;cases oi h;exact ⟨trivial,rfl,⟨j,k,I,J,a6.po [0,1,2]⟩⟩
 rintro e cK ⟨j,k,I,J,hE,bM⟩;obtain ⟨e,rfl⟩:=hE.out;have h:=bk;refine go ?_;replace h:=oi h;subst h;have bN:=bM.yA 2 rfl;exact Ra ⟨j,k,rfl,bN.pk [2,0]⟩
instance k_211:Ct prog 211:=⟨by kernel_rfl,@zI⟩
theorem Cd {w0} {F:List Nat} {N g r} (h:pL N g=some r) {l:Nat} {d f} (o:iy (ja w0 F) w0 d f g.b) (hS:St w0 F w0 [bx l 177 [vS d g.b.length f,vI g.i,vI g.h]]) :
    gZ prog 242 #[.pointer (some ⟨l,0,none⟩)] w0 (fun v w=>v=.agg #[vI r.1.gE,vI r.1.gV,vI r.1.hY]∧St w0 F w [bx l 177 [vS d g.b.length f,vI r.2.i,vI r.2.h]]):=by
 unfold pL at h;refine gZ.fn func242 fun e=>?_;refine T ?_;intro I J q m A h K u n B h C x k p h G z;refine LW.bd [(0,vI m.1),(1,vI n.1),(2,vI k.1)] #[vI m.1,vI n.1,vI k.1] ?_;refine T ?_;intro H j;replace h:=oi h;subst h;exact And.intro trivial ⟨_,jM.one (hP.b j 1 rfl Av rfl rfl),rfl,j.pk [0]⟩
instance k_242:Ct prog 242:=⟨by kernel_rfl,@Cd⟩
theorem xA {w0} {F:List Nat} {N m d aa r} (h:ko N m d aa=some r) {n:Nat} {f g} (aw:iy (ja w0 F) w0 f g m.b) {q J B} (U:J=d.HB.Hz.length) (ax:iy (ja w0 F) w0 q B d.HB.Hz) {u K C} (V:K=d.own.length) (ay:iy (ja w0 F) w0 u C d.own) {x L G} (W:L=d.HC.length) (az:iy (ja w0 F) w0 x G d.HC) {j M k} (X:M=d.py.ag.length) (p:iy (ja w0 F) w0 j k d.py.ag) {z O H} (Y:O=d.py.gc.gQ.length) (aA:iy (ja w0 F) w0 z H d.py.gc.gQ) {A R I} (Z:R=d.gR.length) (aB:iy (ja w0 F) w0 A I d.gR) (hS:St w0 F w0 [bx n 177 [vS f m.b.length g,vI m.i,vI m.h]]) :
    gZ prog 149 #[.pointer (some ⟨n,0,none⟩),.agg #[vS q J B,vS u K C,vS x L G,vS j M k,vI d.py.gc.HD,vI d.py.gc.HL,vI d.py.gc.HF,vS z O H,vS A R I,vI d.HH,vI d.HJ,vI d.gP.gE,vI d.gP.gV,vI d.gP.hY,vI d.g8,vI d.HG],vI aa] w0 (fun v w=>v=vI r.1∧St w0 F w [bx n 177 [vS f m.b.length g,vI r.2.i,vI r.2.h]]):=by
 subst U V W X Y Z;unfold ko at h;refine gZ.fn func149 fun e=>?_;refine T ?_;intro bI bJ bd;obtain ⟨aj,ar,aE⟩:=ob h;refine CW.cut (fun e wb=>En e [(0,.pointer (some ⟨n,0,none⟩)),(2,vI aa),(7,vS j d.py.ag.length k),(20,.bool aj.1)]∧St w0 F wb [bx n 177 [vS f m.b.length g,vI aj.2.1,vI aj.2.2]]) ?_ ?_
 · have h:=ar;refine gB h ?_ ?_<;>intro _ h
   · exact rt
   refine T ?_;intro bL bk h bK be;exact rt
 rintro e bo ⟨hE,bf⟩;obtain ⟨e,rfl⟩:=hE.out;have h:=aE;refine gc h ?_ ?_<;>intro _ h
 · refine T ?_;intro bA aU h bp ao;replace h:=oi h;subst h;exact Ra ⟨rfl,ao.pk [0]⟩
 refine T ?_;intro bB aV h bq ap;refine go ?_;obtain ⟨bm,af,am⟩:=ob h;refine CW.ie af 0 (fun l e wb=>En e [(0,.pointer (some ⟨n,0,none⟩)),(2,vI aa),(7,vS j d.py.ag.length k),(8,vI l.1),(9,vI l.2.1)]∧St w0 F wb [bx n 177 [vS f m.b.length g,vI l.2.2.1,vI l.2.2.2]]) ?_ (ap.po [0]) ?_
 · intro l e br o hM h;obtain ⟨e,rfl,aq⟩:=eo hM;refine gs ?_;obtain ⟨au,ad,ak⟩:=ob h;refine CW.jn [0,2,7,8,9] [0] [(34,.bool au)] aq (h1:=?_) (h2:=?_)
   · have h:=ad;refine gB h ?_ ?_<;>intro _ h
     · refine gb h fun bC ah h=>?_;obtain ⟨a5,bl,aC,rfl,aG,aK,aM,⟨aZ,a7,a0,a8,a1,a9,rfl,aO,aP,aQ⟩,aI⟩:=p.idx ah;refine go ?_;refine T ?_;exact rt
     exact rt
   intro e bs bg;have h:=ak;refine gc h ?_ ?_<;>intro _ h
   · refine T ?_;intro bD aW h bt bi;exact rt
   exact rt
 rintro e bu ⟨hE,bj⟩;obtain ⟨e,rfl⟩:=hE.out;have h:=am;refine gb h fun bE ai h=>?_;obtain ⟨a6,bn,aD,rfl,aH,aL,aN,⟨a2,ba,a3,bb,a4,bc,rfl,aR,aS,aT⟩,aJ⟩:=p.idx ai;refine go ?_;refine T ?_;intro bF aX h bv ab;obtain ⟨av,ae,an⟩:=ob h;refine CW.jn [0,2,8] [0] [(10,vI av)] ab (h1:=?_) (h2:=?_)
 · have h:=ae;refine CW.fl [0,2,8,10,45] fun e=>?_;refine gc h ?_ ?_<;>intro _ h
   · exact rt
   exact rt
 intro e bw aF;have h:=an;refine T ?_;intro bG aY h bz ac;replace h:=oi h;subst h;exact Ra ⟨rfl,ac.pk [0]⟩
instance k_149:Ct prog 149:=⟨by kernel_rfl,@xA⟩
theorem yH {w0 N q f u r} (h:qe N q f u=some r) {g l j} (n:l=q.length) (p:rb w0 g j q) {i m k} (o:m=u.Hz.length) (A:rb w0 i k u.Hz) :
    gZ prog 42 #[vS g l j,.agg #[vI f.HA,vI f.HS,vI f.jC,vI f.call.HA,vI f.call.a,vI f.call.b,vI f.call.c,vI f.call.d,vI f.call.e],.agg #[vS i m k]] w0 (fun v w=>v=.bool r∧St w0 [] w []):=by
 subst n o;unfold qe at h;refine gZ.fn func42 fun e=>?_;have W:=St.start w0;refine T ?_;intro ah aj X ai ak x;refine dW ?_;have Y:=x.drew;refine gB h ?_ ?_<;>intro _ h
 · exact rt
 refine T ?_;intro an ac h am Z;refine bH h ?_ ?_<;>intro ab h
 · refine gb h fun ao z h=>?_;obtain ⟨R,ad,B,rfl,C,H,I,⟨M,U,O,V,rfl,J,K⟩,G⟩:=p.idx z;refine go ?_;refine T ?_;intro af L h ae aa;exact rt
 exact rt
instance k_42:Ct prog 42:=⟨by kernel_rfl,@yH⟩
end Go.Kx
