import Derived.Test.YtlcgibcdiikheaaGreatFa
import Derived.Test.YtlcgibcdiikheaaGreatPu
namespace Go.Kx
open Go Go.RowKit Go.Proofs
open Tryz
set_option maxRecDepth 10000
set_option maxHeartbeats 8000000
set_option linter.unusedVariables false
set_option linter.unusedSimpArgs false
theorem IU {w0 N f r} (h:tO N f=some r) {b g d} (j:g=f.length) (k:rb w0 b d f) :
    iq prog 67 #[vS b g d] w0 (fun v w=>∃ l,v=.pointer (some ⟨l,0,none⟩)∧St w0 [] w [bx l 177 [vS b f.length d,vI r.i,vI r.h]]):=by
 subst j;unfold tO at h;refine iq.fn func67 fun e=>?_;have z:=St.start w0;refine go ?_;obtain ⟨m,n,q⟩:=ob h;refine CW.mono (CW.lb [0] [] [0,3] 0 (fun p=>[(3,vI p.1),(4,vI p.2)]) z n (hb:=?_)) ?_
 · intro p e aa o A h;refine gs ?_;obtain ⟨L,B,H⟩:=ob h;refine CW.jn [0,3,4] [] [(15,.bool L)] A (h1:=?_) (h2:=?_)
   · have h:=B;refine gB h ?_ ?_<;>intro _ h
     · exact rt
     exact rt
   intro e ab R;have h:=H;refine gc h ?_ ?_<;>intro _ h
   · refine gb h fun ac C h=>?_;obtain ⟨M,X,G,rfl,I,W,K,rfl,J⟩:=k.idx C;refine go ?_;refine T ?_;refine LW.u (iQ.conv underlying5 underlying3 rfl) rfl ?_;exact rt
   exact rt
 intro x e Y hM;obtain ⟨rfl,hM⟩:=hM;obtain ⟨e,rfl,U⟩:=eo hM;have h:=q;refine jL [(0,vS b f.length d),(2,vI m.1)] #[vS b f.length d,vI 0,vI m.1] ?_;refine T ?_;intro O Z V;exact rt
instance k_67:Ct prog 67:=⟨by kernel_rfl,@IU⟩
theorem HP {w0} {F:List Nat} {N g r} (h:nU N g=some r) {l:Nat} {d f} (j:iR (jo w0 F) w0 d f g.b) (hS:St w0 F w0 [bx l 177 [vS d g.b.length f,vI g.i,vI g.h]]) :
    iq prog 148 #[.pointer (some ⟨l,0,none⟩)] w0 (fun v w=>v=vI r.1∧St w0 F w [bx l 177 [vS d g.b.length f,vI r.2.i,vI r.2.h]]):=by
 unfold nU at h;refine iq.fn func148 fun e=>?_;refine go ?_;refine LW.u (iQ.nc rfl) rfl ?_;refine go ?_;refine LW.u (iQ.nc rfl) rfl ?_;refine T ?_;intro J m;refine dW ?_;have n:=m.drew;refine go ?_;refine AW.u (i:=4) rfl (by kernel_rfl) rfl rfl (iQ.shr rfl rfl (by decide)) ?_;refine go ?_;refine AW.u (i:=9) rfl (by kernel_rfl) rfl rfl (iQ.shr rfl rfl (by decide)) ?_;refine kb ?_;have k:=n.drew;refine gc h ?_ ?_<;>intro _ h
 · refine kb ?_;have A:=k.drew;refine gb h fun K p h=>?_;obtain ⟨H,I,z,rfl,q,B,C,rfl,x⟩:=j.idx p;refine go ?_;refine T ?_;refine AW.u (i:=11) rfl (by kernel_rfl) rfl rfl (iQ.conv underlying5 underlying3 rfl) ?_;refine go ?_;refine LW.u (iQ.nc rfl) rfl ?_;refine go ?_;refine LW.u (iQ.nc rfl) rfl ?_;refine T ?_;intro G o;replace h:=oi h;subst h;exact Ra ⟨rfl,o.pk [0]⟩
 refine go ?_;replace h:=oi h;subst h;exact Ra ⟨rfl,k.pk [0]⟩
instance k_148:Ct prog 148:=⟨by kernel_rfl,@HP⟩
theorem CB {w0 N B C r} (h:tu N B C=some r) {b i f} (k:i=B.PA.length) (m:rb w0 b f B.PA) {d j g} (l:j=C.PA.length) (n:rb w0 d g C.PA) :
    iq prog 143 #[.agg #[vS b i f],.agg #[vS d j g]] w0 (fun v w=>v=.bool r∧St w0 [] w []):=by
 subst k l;unfold tu at h;refine iq.fn func143 fun e=>?_;have ab:=St.start w0;refine T ?_;intro am ao ac an ap G;refine gc h ?_ ?_<;>intro _ h
 · exact rt
 refine go ?_;obtain ⟨q,z,p⟩:=ob h;refine CW.mono (CW.lx [2,3] [0,1] [] 0 (fun J=>[(5,vI J)]) (RT prog f143.results (fun u=>.bool u) w0 []) G z (hb:=?_)) ?_
 · intro J e aq o H h;refine kD [2,3,5,17] fun e=>?_;refine gc h ?_ ?_<;>intro _ h
   · refine kb ?_;have ad:=H.drew;refine gb h fun ar I h=>?_;obtain ⟨Z,af,K,rfl,M,V,X,rfl,R⟩:=m.idx I;refine go ?_;refine T ?_;have ⟨ak,A,h⟩:=ob h;obtain ⟨aa,ah,L,rfl,O,W,Y,rfl,U⟩:=n.idx A;refine go ?_;refine T ?_;refine gc h ?_ ?_<;>intro _ h
     · exact rt
     exact rt
   exact rt
 intro x e aj hM;rcases q with q | ai
 · obtain ⟨rfl,hM⟩:=hM;obtain ⟨e,rfl,ae⟩:=eo hM;rw [show e=iN e [] from rfl];have h:=p;exact rt
 obtain ⟨rfl,u,rfl,hM⟩:=hM;cases p;exact And.intro trivial hM
instance k_143:Ct prog 143:=⟨by kernel_rfl,@CB⟩
theorem Ez {w0 N B C r} (h:sG N B C=some r) {b i f} (k:i=B.length) (m:rb w0 b f B) {d j g} (l:j=C.length) (n:rb w0 d g C) :
    iq prog 144 #[vS b i f,vS d j g] w0 (fun v w=>v=.bool r∧St w0 [] w []):=by
 subst k l;unfold sG at h;refine iq.fn func144 fun e=>?_;have G:=St.start w0;refine gc h ?_ ?_<;>intro _ h
 · exact rt
 refine go ?_;obtain ⟨q,z,p⟩:=ob h;refine CW.mono (CW.lx [0,1] [] [] 0 (fun J=>[(5,vI J)]) (RT prog f144.results (fun u=>.bool u) w0 []) G z (hb:=?_)) ?_
 · intro J e aj o H h;refine gc h ?_ ?_<;>intro _ h
   · refine kb ?_;have Y:=H.drew;refine gb h fun ak I h=>?_;obtain ⟨ah,ai,K,rfl,M,aa,ab,rfl,R⟩:=m.idx I;refine go ?_;refine T ?_;have ⟨af,A,h⟩:=ob h;obtain ⟨X,ac,L,rfl,O,V,W,rfl,U⟩:=n.idx A;refine go ?_;refine T ?_;refine gc h ?_ ?_<;>intro _ h
     · exact rt
     exact rt
   exact rt
 intro x e ae hM;rcases q with q | ad
 · obtain ⟨rfl,hM⟩:=hM;obtain ⟨e,rfl,Z⟩:=eo hM;rw [show e=iN e [] from rfl];have h:=p;exact rt
 obtain ⟨rfl,u,rfl,hM⟩:=hM;cases p;exact And.intro trivial hM
instance k_144:Ct prog 144:=⟨by kernel_rfl,@Ez⟩
theorem Hr {w0 N b d r} (h:sn N b d=some r) {f C n} (L:C=b.ig.length) (W:rb w0 f n b.ig) {g G p} (M:G=b.PG.length) (X:rb w0 g p b.PG) {j H q} (O:H=b.PE.length) (Y:rb w0 j q b.PE) {k I z} (R:I=d.ig.length) (Z:rb w0 k z d.ig) {l J A} (U:J=d.PG.length) (aa:rb w0 l A d.PG) {m K B} (V:K=d.PE.length) (ab:rb w0 m B d.PE) :
    iq prog 235 #[.agg #[vI b.PO,vI b.Pz,vI b.box,vI b.res,vI b.iK,vI b.bh,vI b.PK,vI b.iP,vI b.iM,.bool b.mark,vS f C n,vS g G p,vS j H q],.agg #[vI d.PO,vI d.Pz,vI d.box,vI d.res,vI d.iK,vI d.bh,vI d.PK,vI d.iP,vI d.iM,.bool d.mark,vS k I z,vS l J A,vS m K B]] w0 (fun v w=>v=.bool r∧St w0 [] w []):=by
 subst L M O R U V;unfold sn at h;refine iq.fn func235 fun e=>?_;have bn:=St.start w0;refine T ?_;intro bO bQ bo bP bR aA;obtain ⟨bf,aF,aO⟩:=ob h;refine CW.jn [2,3] [0,1] [(102,.bool bf)] aA (h1:=?_) (h2:=?_)
 · have h:=aF;refine gB h ?_ ?_<;>intro _ h
   · exact rt
   refine gB h ?_ ?_<;>intro _ h
   · exact rt
   refine go ?_;refine bH h ?_ ?_<;>intro _ h
   · exact rt
   refine gB h ?_ ?_<;>intro _ h
   · exact rt
   refine gB h ?_ ?_<;>intro _ h
   · exact rt
   refine gB h ?_ ?_<;>intro _ h
   · exact rt
   refine go ?_;refine bH h ?_ ?_<;>intro _ h
   · exact rt
   refine gB h ?_ ?_<;>intro _ h
   · exact rt
   refine gB h ?_ ?_<;>intro _ h
   · exact rt
   refine go ?_;refine LW.u (iQ.bne underlying4 rfl rfl) rfl ?_;refine gB h ?_ ?_<;>intro _ h
   · exact rt
   refine go ?_;refine bH h ?_ ?_<;>intro _ h
   · exact rt
   refine gB h ?_ ?_<;>intro _ h
   · exact rt
   exact rt
 intro e bC aB;have h:=aO;refine gc h ?_ ?_<;>intro _ h
 · exact rt
 refine go ?_;obtain ⟨af,ap,ac⟩:=ob h;refine CW.mono (CW.lx [2,3] [0,1] [2,3] 0 (fun aj=>[(5,vI aj)]) (RT prog f235.results (fun u=>.bool u) w0 []) aB ap (hb:=?_)) ?_
 · intro aj e bD o aC h;refine gc h ?_ ?_<;>intro _ h
   · refine kb ?_;have bp:=aC.drew;refine gb h fun bK au h=>?_;obtain ⟨bg,br,aI,rfl,aR,a3,a9,rfl,aX⟩:=W.idx au;refine go ?_;refine T ?_;have ⟨bL,av,h⟩:=ob h;obtain ⟨bi,bs,aJ,rfl,aS,a4,ba,rfl,aY⟩:=Z.idx av;refine go ?_;refine T ?_;refine gc h ?_ ?_<;>intro _ h
     · exact rt
     exact rt
   exact rt
 intro x e bE hM;rcases af with af | bB
 · obtain ⟨rfl,hM⟩:=hM;obtain ⟨e,rfl,aD⟩:=eo hM;have h:=ac;refine go ?_;obtain ⟨ah,aq,ad⟩:=ob h;refine CW.mono (CW.lx [2,3] [0,1] [2,3] 2 (fun ak=>[(6,vI ak)]) (RT prog f235.results (fun u=>.bool u) w0 []) aD aq (hb:=?_)) ?_
   · intro ak e bF o aE h;refine gc h ?_ ?_<;>intro _ h
     · refine kb ?_;have bq:=aE.drew;refine gb h fun bM aw h=>?_;obtain ⟨bj,bt,aK,rfl,aT,a5,bb,rfl,aZ⟩:=X.idx aw;refine go ?_;refine T ?_;have ⟨bN,ax,h⟩:=ob h;obtain ⟨bk,bu,aL,rfl,aU,a6,bc,rfl,a0⟩:=aa.idx ax;refine go ?_;refine T ?_;refine gc h ?_ ?_<;>intro _ h
       · exact rt
       exact rt
     exact rt
   intro x e bG hM;rcases ah with ah | bA
   · obtain ⟨rfl,hM⟩:=hM;obtain ⟨e,rfl,an⟩:=eo hM;have h:=ad;refine go ?_;obtain ⟨ai,ar,ae⟩:=ob h;refine CW.mono (CW.lx [2,3] [0,1] [] 4 (fun am=>[(7,vI am)]) (RT prog f235.results (fun u=>.bool u) w0 []) an ar (hb:=?_)) ?_
     · intro am e bI o ao h;refine gc h ?_ ?_<;>intro _ h
       · refine kb ?_;have aP:=ao.drew;refine gb h fun aG ay h=>?_;obtain ⟨bl,bv,aM,rfl,aV,a7,bd,rfl,a1⟩:=Y.idx ay;refine go ?_;refine T ?_;have ⟨aH,az,h⟩:=ob h;obtain ⟨bm,bw,aN,rfl,aW,a8,be,rfl,a2⟩:=ab.idx az;refine go ?_;refine T ?_;refine AW.u (i:=10) rfl (by kernel_rfl) rfl rfl (iQ.Co Ln rfl rfl (fun w=>Ls aG aH w)) ?_;refine gc h ?_ ?_<;>intro _ h
         · exact rt
         exact rt
       exact rt
     intro x e bJ hM;rcases ai with ai | bz
     · obtain ⟨rfl,hM⟩:=hM;obtain ⟨e,rfl,aQ⟩:=eo hM;rw [show e=iN e [] from rfl];have h:=ae;exact rt
     obtain ⟨rfl,u,rfl,hM⟩:=hM;cases ae;exact And.intro trivial hM
   obtain ⟨rfl,u,rfl,hM⟩:=hM;cases ad;exact And.intro trivial hM
 obtain ⟨rfl,u,rfl,hM⟩:=hM;cases ac;exact And.intro trivial hM
instance k_235:Ct prog 235:=⟨by kernel_rfl,@Hr⟩
end Go.Kx
