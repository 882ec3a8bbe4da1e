import Derived.Test.YtfmfgnhbgcjajaaGreatWa9
import Derived.Test.YtfmfgnhbgcjajaaGreatWa10
import Derived.Test.YtfmfgnhbgcjajaaGreatWa11
namespace Go.Kx
open Go Go.RowKit Go.Proofs
open Tryz
set_option maxRecDepth 10000
set_option maxHeartbeats 8000000
set_option linter.unusedVariables false
set_option linter.unusedSimpArgs false
theorem Gg{w0 N aK aL H r}(h:rE N aK aL H=some r){W ad X}(am:ad=aK.length)(j:rb w0 W X aK):
    di prog 152 #[vS W ad X,vI aL,.agg (uT H)] w0 (fun v w=>∃l m,v=.tuple #[vS l r.1.length m,vI r.2]/\St w0 [] w [sl l m r.1]):=by
 subst am;unfold rE at h;refine di.fS func152 fun e _=>?_;refine T ?_;intro aj _ _ an _ h ah ai _ aO;refine go ?_;obtain⟨aq,aE,ao⟩:=ob h;refine CW.mono (CW.lx [0,1,5,8,18,19] [0,1] [0,1,5,8] 0 (fun aQ=>[(20,vI aQ)]) (fun r x e wb=>x=.ret/\∃u,u=r/\∃v,gL prog f152.results e wb v/\∃l m,v=.tuple #[vS l u.1.length m,vI u.2]/\St w0 [] wb [sl l m u.1]) aO aE (hb:=?_)) ?_
 · intro aQ e _ o _ h;refine gc h ?_ ?_<;>intro _ h
   · refine gb h fun _ aG h=>?_;obtain⟨_,_,_,rfl,_,_,_,⟨_,_,rfl,_⟩,_⟩:=j.idx aG;refine go ?_;refine T ?_;intro _ _ _ _ _ _ _ h _ _;refine CW.fl [0,1,5,8,18,19,20,27] fun e=>?_;exact wk
   exact rt
 intro x e _ hM;rcases aq with aq|_
 · obtain⟨rfl,hM⟩:=hM;obtain⟨e,rfl,ap⟩:=eo hM;have h:=ao;refine gs ?_;obtain⟨aP,aD,aN⟩:=ob h;refine CW.jn [0,1,5,8] [0,1] [(63,.bool aP)] ap (h1:=?_) (h2:=?_)
   · have h:=aD;refine dW ?_;have:=ap.drew;refine gB h ?_ ?_<;>intro _ h
     · exact rt
     refine T ?_;intro _ _ h _ _;refine bH h ?_ ?_<;>intro _ h
     · exact rt
     refine T ?_;intro _ _ h _ _;refine bH h ?_ ?_<;>intro _ h
     · exact rt
     refine gB h ?_ ?_<;>intro _ h
     · exact rt
     refine gb h fun _ aH h=>?_;obtain⟨_,_,_,rfl,_,_,_,⟨_,_,rfl,_⟩,_⟩:=j.idx aH;exact wk
   intro e _ au;have h:=aN;refine gc h ?_ ?_<;>intro _ h
   · exact rt
   refine fA ?_;have:=au.drew;refine gb h fun _ aI h=>?_;obtain⟨_,_,_,rfl,_,_,_,⟨_,_,rfl,aF⟩,_⟩:=j.idx aI;refine go ?_;refine T ?_;have⟨_,aJ,h⟩:=ob h;obtain⟨_,_,_,rfl,_,_,_,rfl,_⟩:=aF.idx aJ;refine go ?_;refine T ?_;intro ar _ h _ _ V _ h _ g _ av;refine dW ?_;have Y:=av.drew;refine gb h fun aR C h=>?_;obtain⟨f,b,rfl,_,_⟩:=Y.dA (α:=dJ) (i:=0) rfl C;refine go ?_;obtain⟨_,ac,_⟩:=Y.freeze (α:=dJ) 0 rfl;obtain⟨_,_,_,n,_,_,_,aC,_⟩:=ac.fe.idx C;cases n;obtain⟨_,_,rfl,_⟩:=aC;refine T ?_;intro _ _ h _ _ I _ h p A _ aw;refine CW.fl [1,5,8,11,12,13,95] fun e=>?_;refine gc h ?_ ?_<;>intro _ h
   · exact rt
   refine go ?_;have ax:=aw.dZ (α:=dJ) 1 rfl ac;have ay:=ax.pk (M:=[sl p A I.1]++[sl (some ⟨f,b,none⟩) g V,sl ah ai an,bx aj 87 (qT H)]) [0,1,2,3];have⟨ae,d,h⟩:=ob h;refine LW.uR (M:=[sl p A I.1]) (L:=[sl (some ⟨f,b,none⟩) g V,sl ah ai an,bx aj 87 (qT H)]) (z:=aR) (z':=(dJ.mk I.1)) (o:=0) ay (i:=0) rfl C yk rfl (by show _=b+(aL:Int).toNat*1+0;omega) rfl rfl rfl rfl (whole (fun w G hG=>⟨p,A,rfl,hG⟩)) ?_;intro _ Z hf;rw[oi d]at Z;refine fA ?_;have aa:=Z.drew;refine gb h fun aM k h=>?_;obtain⟨_,_,n,O,R⟩:=aa.dA (α:=dJ) (i:=0) rfl k;cases n;(try refine AW.ux (i:=3) (by decide +kernel) rfl (by kernel_rfl) rfl rfl (dL.ix underlying168 yU rfl rfl O (by rw[dx (oi d)];exact R)) ?_);refine go ?_;obtain⟨_,K,_⟩:=aa.freeze (α:=dJ) 0 rfl;obtain⟨_,_,_,n,_,_,_,ak,_⟩:=K.fe.idx k;cases n;obtain⟨_,_,rfl,_⟩:=ak;refine T ?_;intro _ _ h _ _ J _ h q B _ az;refine gc h ?_ ?_<;>intro _ h
   · exact rt
   refine go ?_;(try refine LW.u (dL.ix underlying168 yU rfl rfl O (by rw[dx (oi d)];exact R)) rfl ?_);refine go ?_;have aA:=az.dZ (α:=dJ) 1 rfl K;have aB:=aA.pk (M:=[sl q B J.1]++[sl (some ⟨f,b,none⟩) g ae,sl ah ai an,bx aj 87 (qT H)]) [0,1,2,3];have⟨af,U,h⟩:=ob h;refine LW.uR (M:=[sl q B J.1]) (L:=[sl (some ⟨f,b,none⟩) g ae,sl ah ai an,bx aj 87 (qT H)]) (z:=aM) (z':=(dJ.mk J.1)) (o:=0) aB (i:=0) rfl k yk rfl (by show _=b+(H.eP:Int).toNat*1+0;omega) rfl rfl rfl rfl (whole (fun w G hG=>⟨q,B,rfl,hG⟩)) ?_;intro _ ab hf;rw[oi U]at ab;refine go ?_;replace h:=oi h;subst h;exact Rc tt tt ⟨(some ⟨f,b,none⟩),g,(show(.tuple #[vS (some ⟨f,b,none⟩) V.length g,vI ar]:Value)=.tuple #[vS (some ⟨f,b,none⟩) af.length g,vI ar] by rw[show V.length=af.length from((dx (oi d)).trans (dx (oi U)))]),ab.pk [0]⟩
 obtain⟨rfl,u,rfl,hM⟩:=hM;cases ao;exact And.intro trivial hM
instance k_152:Ct prog 152:={h:=@Gg}
theorem ET{w0 N g bw bz bA bB r}(h:qb N g bw bz bA bB=some r){Z au af}(aH:au=g.Rp.Ro.length)(bC:rb w0 Z af g.Rp.Ro){aa av ah}(aI:av=g.own.length)(bD:rb w0 aa ah g.own){ab aw ai}(aJ:aw=g.Rr.length)(bE:rb w0 ab ai g.Rr){ac ax aj}(aK:ax=g.py.ag.length)(bF:rb w0 ac aj g.py.ag){ad ay ak}(aL:ay=g.py.gc.da.length)(bG:rb w0 ad ak g.py.gc.da){ae az am}(aM:az=g.db.length)(bI:rb w0 ae am g.db):
    di prog 184 #[.agg (uP Z au af aa av ah ab aw ai ac ax aj ad ay ak ae az am g),vI bw,vI bz,vI bA,.agg (uL bB)] w0 (fun v w=>∃p C q G x H z I A J B K,v=.tuple #[.agg (uP p r.1.Rp.Ro.length C q r.1.own.length G x r.1.Rr.length H z r.1.py.ag.length I A r.1.py.gc.da.length J B r.1.db.length K r.1),.agg #[vI r.2.code,vI r.2.RI]]/\St w0 [] w [sl p C r.1.Rp.Ro,sl q G r.1.own,sl x H r.1.Rr,sl z I r.1.py.ag,sl A J r.1.py.gc.da,sl B K r.1.db]):=by
 subst aH aI aJ aK aL aM;unfold qb at h;refine di.fS func184 fun e _=>?_;refine T ?_;intro _ _ _ _ _ _ _ _ _ _ _ _ o _ h bb bj bc bk be bl bf bm bg bn bi bo _ _ _ _ _ _ bs;obtain⟨bt,a2,bp⟩:=ob h;refine CW.jn [1,2,3,5,9,10,11,12] [0,1,2,3,4,5,6,7,8,9,10] [(27,.bool bt)] bs (h1:=?_) (h2:=?_)
 · have h:=a2;exact wk
 intro e _ _;have h:=bp;refine gc h ?_ ?_<;>intro _ h
 · refine fm [(0,vI 2)] #[vI 2,vI 0] ?_;exact wk
 refine T ?_;intro _ _ h _ aV;refine CW.fl [1,2,3,9,10,11,12,34] fun e=>?_;refine gc h ?_ ?_<;>intro _ h
 · refine fm [(0,vI 1)] #[vI 1,vI 0] ?_;exact wk
 refine gc h ?_ ?_<;>intro _ h
 · exact wk
 refine gs ?_;refine CW.region ?_;refine gs ?_;obtain⟨bu,a3,bq⟩:=ob h;refine CW.jn [1,2,3,9,10,11,12,38] [0,1,2,3,4,5,6,7,8,9] [(48,.bool bu)] aV (h1:=?_) (h2:=?_)
 · have h:=a3;exact wk
 intro e _ aW;have h:=bq;refine gc h ?_ ?_<;>intro _ h
 · exact wk
 refine gs ?_;refine CW.region ?_;refine gs ?_;obtain⟨bv,a4,br⟩:=ob h;refine CW.jn [1,2,3,9,10,11,12,38] [0,1,2,3,4,5,6,7,8,9] [(58,.bool bv)] aW (h1:=?_) (h2:=?_)
 · have h:=a4;exact wk
 intro e _ aX;have h:=br;refine gc h ?_ ?_<;>intro _ h
 · exact wk
 refine gs ?_;refine CW.region ?_;refine gs ?_;obtain⟨a5,aE,aS⟩:=ob h;refine CW.jn [1,2,3,9,10,11,12,38] [0,1,2,3,4,5,6,7,8,9] [(68,.bool a5)] aX (h1:=?_) (h2:=?_)
 · have h:=aE;exact wk
 intro e _ an;have h:=aS;refine gc h ?_ ?_<;>intro _ h
 · refine gb h fun j aP h=>?_;obtain⟨_,n,d⟩:=xy aP;obtain⟨M,d⟩:=eR d;obtain⟨O,d⟩:=eR d;obtain⟨R,d⟩:=eR d;obtain⟨U,d⟩:=eR d;obtain⟨V,d⟩:=eR d;obtain⟨W,d⟩:=eR d;rw[oi d]at n M O R U V W;obtain⟨_,L⟩:=an.lF [1,2,3,4,5,6] [0,7,8,9];refine LW.cl (mw n rfl rfl rfl rfl rfl rfl L.st) ?_;rintro _ _ ⟨rfl,hs⟩;have:=L.back _ _ hs;refine T ?_;intro _ _ _ f;cases h;rw[show o.Rp.Ro.length=j.1.Rp.Ro.length from M]at f;rw[show o.own.length=j.1.own.length from O]at f;rw[show o.Rr.length=j.1.Rr.length from R]at f;rw[show o.py.ag.length=j.1.py.ag.length from U]at f;rw[show o.py.gc.da.length=j.1.py.gc.da.length from V]at f;rw[show o.db.length=j.1.db.length from W]at f;exact Rc (dE.b f 8 rfl iE rfl rfl) (dE.b f 7 rfl jt rfl rfl) ⟨bb,bj,bc,bk,be,bl,bf,bm,bg,bn,bi,bo,rfl,f.pk [0,1,2,3,4,5]⟩
 refine gc h ?_ ?_<;>intro _ h
 · exact wk
 refine gs ?_;refine CW.region ?_;refine gs ?_;obtain⟨a6,aF,aT⟩:=ob h;refine CW.jn [1,2,3,9,10,11,12,38] [0,1,2,3,4,5,6,7,8,9] [(87,.bool a6)] an (h1:=?_) (h2:=?_)
 · have h:=aF;refine CW.fl [1,2,3,9,10,11,12,38,87] fun e=>?_;exact wk
 intro e _ aY;have h:=aT;refine gf [1,2,3,9,10,11,12,38,87] fun e=>?_;refine gc h ?_ ?_<;>intro _ h
 · exact wk
 refine gs ?_;refine CW.region ?_;refine gs ?_;obtain⟨a7,aG,aU⟩:=ob h;refine CW.jn [1,2,3,9,10,11,12,38] [0,1,2,3,4,5,6,7,8,9] [(96,.bool a7)] aY (h1:=?_) (h2:=?_)
 · have h:=aG;exact wk
 intro e _ _;have h:=aU;refine gc h ?_ ?_<;>intro _ h
 · exact wk
 refine gc h ?_ ?_<;>intro _ h
 · exact wk
 refine gc h ?_ ?_<;>intro _ h
 · refine T ?_;intro _ _ h _ aZ;refine CW.fl [9,10,11,12,124] fun e=>?_;refine gc h ?_ ?_<;>intro _ h
   · refine fm [(0,vI 2)] #[vI 2,vI 0] ?_;exact wk
   refine fA ?_;have a0:=aZ.drew;refine go ?_;obtain⟨_,k,a1⟩:=a0.freeze (α:=ef) 6 rfl;have⟨a8,X,h⟩:=ob h;obtain⟨_,_,aA,aB,aN⟩:=dX.tI k.fe X;have aq:=(k.fe).le;refine AW.u (i:=5) rfl (by kernel_rfl) rfl rfl (dL.sub (α:=ef) (l:=o.db) underlying52 Aa rfl tq (sL rfl) X aq aA aB) ?_;refine gb h fun a9 Y h=>?_;obtain⟨_,_,aC,aD,aO⟩:=dX.tI k.fe Y;have ar:=(k.fe).le;refine AW.u (i:=12) rfl (by kernel_rfl) rfl rfl (dL.sub (α:=ef) (l:=o.db) underlying52 Aa rfl (sL rfl) tq Y ar aC aD) ?_;refine jP 0 ?_;refine LW.b0 (α:=ef) a1 ?_;intro _ _ _ ao hf;refine T ?_;have⟨ba,aQ,h⟩:=ob h;refine jP 6 ?_;refine LW.fM (l:=([]:List ef)) (m:=a8) tU rfl rfl (ao.rZ 7 rfl aN) aQ ao (i:=0) rfl rfl ?_;intro _ _ _ ap hf;refine T ?_;have⟨_,aR,h⟩:=ob h;refine jP 13 ?_;refine LW.fM (l:=ba) (m:=a9) tU rfl rfl (ap.rZ 7 rfl aO) aR ap (i:=0) rfl rfl ?_;intro _ _ _ _ hf;refine T ?_;intro _ _;refine LW.bd [] #[vI 0,vI 0] ?_;exact wk
 refine fm [(0,vI 2)] #[vI 2,vI 0] ?_;exact wk
instance k_184:Ct prog 184:={h:=@ET}
theorem JQ{w0}{F:List Nat}{N l d ad ak r}(h:lY N l d ad ak=some r){I:Nat}{f g}(ar:dX (eJ w0 F) w0 f g l.b){m L A}(X:L=d.Rp.Ro.length)(au:dX (eJ w0 F) w0 m A d.Rp.Ro){n M B}(Y:M=d.own.length)(av:dX (eJ w0 F) w0 n B d.own){p O C}(Z:O=d.Rr.length)(aw:dX (eJ w0 F) w0 p C d.Rr){j R k}(aa:R=d.py.ag.length)(K:dX (eJ w0 F) w0 j k d.py.ag){q U G}(ab:U=d.py.gc.da.length)(ax:dX (eJ w0 F) w0 q G d.py.gc.da){z V H}(ac:V=d.db.length)(ay:dX (eJ w0 F) w0 z H d.db)(hS:St w0 F w0 [bx I 99 [vS f l.b.length g,vI l.i,vI l.h]]):
    di prog 149 #[.pointer (some ⟨I,0,none⟩),.agg (uP m L A n M B p O C j R k q U G z V H d),vI ad,vI ak] w0 (fun v w=>v=vI r.1/\St w0 F w [bx I 99 [vS f l.b.length g,vI r.2.i,vI r.2.h]]):=by
 subst X Y Z aa ab ac;unfold lY at h;refine di.fn func149 fun e=>?_;refine T ?_;intro W _ am;refine go ?_;obtain⟨af,ah,ae⟩:=ob h;refine CW.it ah (fun J e wb=>En e [(0,.pointer (some ⟨I,0,none⟩)),(2,vI ad),(3,vI ak),(5,.pointer (some ⟨W,0,none⟩)),(9,vS j d.py.ag.length k),(10,vI J.1)]/\St w0 F wb [bx W 54 (qP m A n B p C j k q G z H d),bx I 99 [vS f l.b.length g,vI J.2.1,vI J.2.2]]) (fun o x e wb=>match o with|.inl J=>x=.exit 0/\En e [(0,.pointer (some ⟨I,0,none⟩)),(2,vI ad),(5,.pointer (some ⟨W,0,none⟩))]/\St w0 F wb [bx W 54 (qP m A n B p C j k q G z H d),bx I 99 [vS f l.b.length g,vI J.2.1,vI J.2.2]]|.inr r=>x=.ret/\∃u,u=r/\∃v,gL prog f149.results e wb v/\v=vI u.1/\St w0 F wb [bx I 99 [vS f l.b.length g,vI u.2.i,vI u.2.h]]) ?_ (am.po [0,1]) ?_
 · intro J e _ o hM h;obtain⟨e,rfl,an⟩:=eo hM;refine gc h ?_ ?_<;>intro _ h
   · refine gs ?_;refine CW.block ?_;refine gs ?_;obtain⟨aj,ap,az⟩:=ob h;refine CW.j0 [0,2,3,5,9,10] [0] [(30,.bool aj.1)] [bx I 99 [vS f l.b.length g,vI aj.2.1,vI aj.2.2]] an ?_ ?_
     · have h:=ap;refine gb h fun _ aq h=>?_;obtain⟨_,_,_,rfl,_,_,_,⟨_,_,_,_,_,_,rfl,_,_,_⟩,_⟩:=K.idx aq;refine go ?_;refine T ?_;refine bH h ?_ ?_<;>intro _ h
       · refine T ?_;intro _ _ h _ _;exact rt
       exact rt
     intro e _ _;have h:=az;refine gc h ?_ ?_<;>intro _ h
     · refine gb h fun _ ai h=>?_;obtain⟨_,_,_,rfl,_,_,_,⟨_,_,_,_,_,_,rfl,_,_,_⟩,_⟩:=K.idx ai;exact wk
     exact rt
   exact rt
 intro x e _ hM;rcases af with af|_
 · obtain⟨rfl,hM⟩:=hM;obtain⟨e,rfl,_⟩:=eo hM;have h:=ae;refine T ?_;intro _ _ h _ ao;replace h:=oi h;subst h;exact Ra ⟨rfl,ao.pk [0]⟩
 obtain⟨rfl,u,rfl,hM⟩:=hM;cases ae;exact And.intro trivial hM
instance k_149:Ct prog 149:={h:=@JQ}
theorem GP{w0 N z R U r}(h:rS N z R U=some r){b f d}(g:f=z.length)(i:rb w0 b d z):
    di prog 219 #[vS b f d,vI R,vI U] w0 (fun v w=>v=vI r/\St w0 [] w []):=by
 subst g;unfold rS at h;refine di.fS func219 fun e G=>?_;refine go ?_;obtain⟨l,q,k⟩:=ob h;refine CW.mono (CW.lx [0,1,2] [] [7,8] 0 (fun j=>[(7,vI j.1),(8,vI j.2.1),(9,vI j.2.2)]) (RT prog f219.results (fun u=>vI u) w0 []) G q (hb:=?_)) ?_
 · intro j e _ o H h;refine gc h ?_ ?_<;>intro _ h
   · refine gb h fun _ K h=>?_;obtain⟨_,_,_,rfl,_,_,_,rfl,_⟩:=i.idx K;refine go ?_;refine T ?_;refine CW.fl [0,1,2,7,8,9,20] fun e=>?_;refine gc h ?_ ?_<;>intro _ h
     · exact rt
     refine go ?_;refine T ?_;refine gc h ?_ ?_<;>intro _ h
     · exact rt
     refine gs ?_;obtain⟨L,m,A⟩:=ob h;refine CW.jn [0,1,2,7,8,9] [] [(37,.bool L)] H (h1:=?_) (h2:=?_)
     · have h:=m;refine gB h ?_ ?_<;>intro _ h
       · exact rt
       refine go ?_;refine T ?_;exact rt
     intro e _ I;have h:=A;refine gs ?_;obtain⟨M,n,B⟩:=ob h;refine CW.jn [0,1,2,8,9] [] [(7,vI M)] I (h1:=?_) (h2:=?_)
     · have h:=n;refine gc h ?_ ?_<;>intro _ h
       · refine go ?_;refine T ?_;exact rt
       exact rt
     intro e _ J;have h:=B;refine gs ?_;obtain⟨O,p,C⟩:=ob h;refine CW.jn [0,1,2,7,8,9] [] [(59,.bool O)] J (h1:=?_) (h2:=?_)
     · have h:=p;refine go ?_;refine T ?_;refine bH h ?_ ?_<;>intro _ h
       · refine gB h ?_ ?_<;>intro _ h
         · exact rt
         refine go ?_;refine T ?_;exact rt
       exact rt
     intro e _ _;have h:=C;refine gc h ?_ ?_<;>intro _ h
     · refine go ?_;refine T ?_;exact rt
     exact rt
   exact rt
 intro x e _ hM;rcases l with l|_
 · obtain⟨rfl,hM⟩:=hM;obtain⟨e,rfl,_⟩:=eo hM;have h:=k;exact wk
 obtain⟨rfl,u,rfl,hM⟩:=hM;cases k;exact And.intro trivial hM
instance k_219:Ct prog 219:={h:=@GP}
theorem Gz{w0}{F:List Nat}{N n r}(h:nm N n=some r){x:Nat}{g j}(L:dX (eJ w0 F) w0 g j n.b)(hS:St w0 F w0 [bx x 99 [vS g n.b.length j,vI n.i,vI n.h]]):
    di prog 146 #[.pointer (some ⟨x,0,none⟩)] w0 (fun v w=>∃p q,v=.agg #[vS p r.1.Ro.length q]/\St w0 F w [sl p q r.1.Ro,bx x 99 [vS g n.b.length j,vI r.2.i,vI r.2.h]]):=by
 unfold nm at h;refine di.fn func146 fun e=>?_;refine T ?_;intro _ _ _;refine LW.bd [] #[vS none 0 0] ?_;refine T ?_;intro M _ _ _ H;refine go ?_;have z:=H.nil (α:=Int);obtain⟨_,B,G⟩:=ob h;refine CW.i2 B 0 [0,2,3] [2] (fun k (d:Ad) (f:Nat)=>[(4,vI k.1)]) (fun k d f=>[bx M 31 [vS d k.2.2.2.length f],bx x 99 [vS g n.b.length j,vI k.2.1,vI k.2.2.1],sl d f k.2.2.2]) z ?_ ?_ ?_
 · exact⟨none,0,z.po [2,1,3,0]⟩
 · intro k e d f _ o I h;refine gc h ?_ ?_<;>intro _ h
   · refine fA ?_;have:=I.drew;refine T ?_;intro K _ h _ J;refine LW.bi [K.1] J ?_;intro _ _ _ A hf;refine T ?_;have⟨_,C,h⟩:=ob h;refine T ?_;refine LW.fM (l:=k.2.2.2) (m:=([K.1]:List Int)) lH rfl rfl (A.rI 0 rfl) C A (i:=4) rfl rfl ?_;intro _ _ _ _ hf;exact wk
   exact rt
 intro e d f _ _;have h:=G;refine T ?_;intro _ u;replace h:=oi h;subst h;exact And.intro trivial ⟨_,gL.one (dE.b u 0 rfl Ae rfl rfl),d,f,rfl,u.pk [3,2]⟩
instance k_146:Ct prog 146:={h:=@Gz}
theorem Gi{w0 N i j r}(h:mc N i j=some r){b f d}(g:f=i.parts.length)(k:rb w0 b d i.parts):
    di prog 55 #[.agg #[vI i.RB,vS b f d],vI j] w0 (fun v w=>v=.bool r/\St w0 [] w []):=by
 subst g;unfold mc at h;refine di.fS func55 fun e _=>?_;exact wk
instance k_55:Ct prog 55:={h:=@Gi}
theorem Ey{w0 N f aA r}(h:qk N f aA=some r){j J q}(W:J=f.Rp.Ro.length)(aC:rb w0 j q f.Rp.Ro){k K x}(X:K=f.own.length)(aD:rb w0 k x f.own){l O z}(Y:O=f.Rr.length)(aE:rb w0 l z f.Rr){m R A}(Z:R=f.py.ag.length)(ac:rb w0 m A f.py.ag){n U B}(aa:U=f.py.gc.da.length)(aF:rb w0 n B f.py.gc.da){p V C}(ab:V=f.db.length)(aG:rb w0 p C f.db):
    di prog 160 #[.agg (uP j J q k K x l O z m R A n U B p V C f),vI aA] w0 (fun v w=>∃ad ae,v=vS ad r.length ae/\St w0 [] w [sl ad ae r]):=by
 subst W X Y Z aa ab;unfold qk at h;refine di.fS func160 fun e _=>?_;refine T ?_;intro aJ _ au;refine LW.b0 (α:=Int) au ?_;intro aH aI _ _ hf;refine T ?_;intro _ _ h _ _ _ af;refine go ?_;obtain⟨_,am,ar⟩:=ob h;refine CW.i2 am 0 [2,11,12] [0,2] (fun g (b:Ad) (d:Nat)=>[(5,vS b g.1.length d),(13,vI g.2)]) (fun g b d=>[sl b d g.1]) af ?_ ?_ ?_
 · exact⟨aH,aI,af.po [0,2,1]⟩
 · intro g e b d az o ah h;refine gc h ?_ ?_<;>intro _ h
   · refine gb h fun aB I h=>?_;obtain⟨_,_,rfl,_,_⟩:=ah.dA (α:=Int) (i:=0) rfl I;refine go ?_;obtain⟨ap,H,av⟩:=ah.freeze (α:=Int) 0 rfl;obtain⟨_,_,_,ax,_,_,_,aj,_⟩:=H.fe.idx I;cases ax;obtain rfl:=aj;refine T ?_;obtain⟨ay,ak,aq⟩:=ob h;refine CW.jn [2,5,7,11,12,13] [0,1,2] [(31,.bool ay)] av (h1:=?_) (h2:=?_)
     · have h:=ak;refine gb h fun _ an h=>?_;obtain⟨_,_,_,rfl,_,_,_,⟨_,_,_,_,_,_,rfl,_,_,_⟩,_⟩:=ac.idx an;refine go ?_;refine T ?_;refine bH h ?_ ?_<;>intro _ h
       · refine T ?_;intro _ _ h _ _;refine LW.u (dL.fd D1 rfl rfl) rfl ?_;exact rt
       exact rt
     intro e _ ai;have h:=aq;refine gf [2,5,7,11,12,13,31] fun e=>?_;refine gc h ?_ ?_<;>intro _ h
     · refine gb h fun _ ao h=>?_;refine LW.fZ (M:=[]) (L:=[fz az ap,bx aJ 54 (qP j q k x l z m A n B p C f),sl b d g.1]) (vs:=#[vI aB]) (i:=2) lH rfl (by kernel_rfl) rfl rfl ao ai rfl (fun w G hG=>by cases(show G=[] from hG);exact⟨rfl,rfl⟩) rfl rfl ?_;intro _ _ _ _ aw hf;refine go ?_;have:=aw.dZ (α:=Int) 0 rfl H;exact rt
     refine go ?_;have:=ai.dZ (α:=Int) 0 rfl H;exact rt
   exact rt
 intro e b d _ _;have h:=ar;exact rt
instance k_160:Ct prog 160:={h:=@Ey}
theorem Fq{w0 N d aY aZ r}(h:pX N d aY aZ=some r){G ac M}(aj:ac=d.Rp.Ro.length)(a1:rb w0 G M d.Rp.Ro){H ad O}(ak:ad=d.own.length)(a2:rb w0 H O d.own){I ae R}(am:ae=d.Rr.length)(a3:rb w0 I R d.Rr){J af U}(an:af=d.py.ag.length)(aq:rb w0 J U d.py.ag){K ah V}(ao:ah=d.py.gc.da.length)(a4:rb w0 K V d.py.gc.da){L ai W}(ap:ai=d.db.length)(a5:rb w0 L W d.db):
    di prog 176 #[.agg (uP G ac M H ad O I ae R J af U K ah V L ai W d),vI aY,vI aZ] w0 (fun v w=>∃j q k x l z m A n B p C,v=.agg (uP j r.Rp.Ro.length q k r.own.length x l r.Rr.length z m r.py.ag.length A n r.py.gc.da.length B p r.db.length C r)/\St w0 [] w [sl j q r.Rp.Ro,sl k x r.own,sl l z r.Rr,sl m A r.py.ag,sl n B r.py.gc.da,sl p C r.db]):=by
 subst aj ak am an ao ap;unfold pX at h;refine di.fS func176 fun e _=>?_;refine T ?_;intro _ _ _ _ _ _ b _ h a7 ba a9 bb aK aN ar au aL aO aM aP _ _ aQ _ _ _ aU;obtain⟨aW,ay,aR⟩:=ob h;refine CW.jn [1,2,3,6,7] [0,1,2,3,4,5,6,7,8] [(19,.bool aW)] aU (h1:=?_) (h2:=?_)
 · have h:=ay;exact wk
 intro e _ av;have h:=aR;refine gc h ?_ ?_<;>intro _ h
 · exact wk
 refine go ?_;obtain⟨_,aA,aT⟩:=ob h;refine CW.i0 aA 0 [1,2,3,6,7] [1,2,3,5,6,7,8] (fun f=>[(8,vI f.2)]) (fun f=>[bx aQ 54 [vS a7 b.Rp.Ro.length ba,vS a9 b.own.length bb,vS aK b.Rr.length aN,vS ar f.1.length au,vI b.py.gc.Ru,vI b.py.gc.RD,vI b.py.gc.Rv,vS aL b.py.gc.da.length aO,vS aM b.db.length aP,vI b.RA,vI b.Rz,vI b.dc.cd,vI b.dc.dg,vI b.dc.dn,vI b.du,vI b.Rx],sl ar au f.1]) av ?_ ?_ ?_
 · exact av.po [1,2,3,5,6,7,8,0,4]
 · intro f e _ o _ h;refine gf [1,2,3,6,7,8,26] fun e=>?_;refine gc h ?_ ?_<;>intro _ h
   · refine gb h fun _ aD h=>?_;obtain⟨_,_,_,rfl,_,_,_,⟨_,_,_,_,_,_,rfl,_,_,_⟩,_⟩:=aq.idx aD;refine go ?_;refine T ?_;intro _ _ _ _ aw;obtain⟨aX,az,aS⟩:=ob h;refine CW.jn [1,2,3,6,7,8] [1,2,3,4,5,6,7,8,9] [(49,.bool aX)] aw (h1:=?_) (h2:=?_)
     · have h:=az;exact wk
     intro e _ X;have h:=aS;refine gc h ?_ ?_<;>intro _ h
     · refine gb h fun _ Z h=>?_;obtain⟨_,_,rfl,_,_⟩:=X.dA (α:=c6) (i:=8) rfl Z;refine go ?_;refine gb h fun _ g h=>?_;refine LW.se 6 X 8 Z g (hM:=(fK (fun w cs F hF=>by obtain⟨aE,aH,aF,aI,aG,aJ,rfl,hH⟩:=hF;exact⟨aE,aH,aF,aI,aG,aJ,rfl,hH⟩))) fun _ Y=>?_;refine gb h fun _ aa h=>?_;obtain⟨_,_,aV,aB,aC⟩:=Y.dA (α:=c6) (i:=8) rfl aa;cases aV;(try refine LW.u (dL.ix underlying47 wO rfl rfl aB (by rw[dx (oi g)];exact aC)) rfl ?_);refine gb h fun a0 ab h=>?_;refine LW.se 7 Y 8 aa ab (hM:=(fK (fun w cs F hF=>by obtain⟨aE,aH,aF,aI,aG,aJ,rfl,hH⟩:=hF;exact⟨aE,aH,aF,aI,aG,aJ,rfl,hH⟩))) fun _ ax=>?_;refine go ?_;rw[show f.1.length=a0.length from((dx (oi g)).trans (dx (oi ab)))]at ax;exact rt
     exact rt
   exact rt
 intro e _ _;have h:=aT;exact wk
instance k_176:Ct prog 176:={h:=@Fq}
theorem GS{w0}{F:List Nat}{N m f aJ r}(h:rJ N m f aJ=some r){I:Nat}{k l}(aL:dX (eJ w0 F) w0 k l m.b){n K z}(Y:K=f.Rp.Ro.length)(aM:dX (eJ w0 F) w0 n z f.Rp.Ro){o L A}(Z:L=f.own.length)(aN:dX (eJ w0 F) w0 o A f.own){p M B}(aa:M=f.Rr.length)(aO:dX (eJ w0 F) w0 p B f.Rr){q O C}(ab:O=f.py.ag.length)(aP:dX (eJ w0 F) w0 q C f.py.ag){u R G}(ac:R=f.py.gc.da.length)(aQ:dX (eJ w0 F) w0 u G f.py.gc.da){x U H}(ad:U=f.db.length)(aR:dX (eJ w0 F) w0 x H f.db)(hS:St w0 F w0 [bx I 99 [vS k m.b.length l,vI m.i,vI m.h]]):
    di prog 148 #[.pointer (some ⟨I,0,none⟩),.agg (uP n K z o L A p M B q O C u R G x U H f),vI aJ] w0 (fun v w=>v=.agg (uL r.1)/\St w0 F w [bx I 99 [vS k m.b.length l,vI r.2.i,vI r.2.h]]):=by
 subst Y Z aa ab ac ad;unfold rJ at h;refine di.fn func148 fun e=>?_;refine T ?_;intro _ _ _ _ _ _ aK _ h _ _;refine LW.bd [(0,vI (IntKind.i64.wrap (1+aK.1)))] #[vI (IntKind.i64.wrap (1+aK.1)),vI 0,vI 0,vI 0,vI 0,vI 0] ?_;refine T ?_;intro ah _ _ _ _ _ _ h _ aF;obtain⟨af,ar,aA⟩:=ob h;refine CW.j0 [0,2,4,6,7] [0,2,3] [] [bx ah 63 [vI af,vI 0,vI 0,vI 0,vI 0,vI 0]] aF ?_ ?_
 · have h:=ar;exact wk
 intro e _ ae;have h:=aA;refine gs ?_;refine CW.region ?_;refine gs ?_;obtain⟨j,au,aB⟩:=ob h;refine CW.j0 [0,6,7] [1] [] [bx I 99 [vS k m.b.length l,vI j.1,vI j.2.1],bx ah 63 [vI af,vI j.2.2.1,vI j.2.2.2.1,vI j.2.2.2.2.1,vI j.2.2.2.2.2.1,vI j.2.2.2.2.2.2]] ae ?_ ?_
 · have h:=au;refine gf [0,2,4,6,7,16,17] fun e=>?_;refine gc h ?_ ?_<;>intro _ h
   · refine T ?_;intro _ _ h _ _ _ _ _ _ h _ _ _ _ _ _ h _ _ _ _ _ _ h _ _ _ am;refine LW.bi [0,0,0,1,2,4] am ?_;intro _ _ _ _ hf;exact wk
   refine gs ?_;refine CW.region ?_;refine gs ?_;obtain⟨aG,av,aC⟩:=ob h;refine CW.jn [0,2,4,6,7,16] [0,1,2,3] [(39,.bool aG)] ae (h1:=?_) (h2:=?_)
   · have h:=av;exact wk
   intro e _ an;have h:=aC;refine gc h ?_ ?_<;>intro _ h
   · exact wk
   refine gs ?_;refine CW.region ?_;refine gs ?_;obtain⟨aH,aw,aD⟩:=ob h;refine CW.jn [0,2,4,6,7,16] [0,1,2,3] [(55,.bool aH)] an (h1:=?_) (h2:=?_)
   · have h:=aw;exact wk
   intro e _ ao;have h:=aD;refine gc h ?_ ?_<;>intro _ h
   · exact wk
   refine gs ?_;refine CW.region ?_;refine gs ?_;obtain⟨aI,ax,aE⟩:=ob h;refine CW.jn [0,2,4,6,7,16] [0,1,2,3] [(68,.bool aI)] ao (h1:=?_) (h2:=?_)
   · have h:=ax;exact wk
   intro e _ ap;have h:=aE;refine gc h ?_ ?_<;>intro _ h
   · exact wk
   refine gc h ?_ ?_<;>intro _ h
   · exact wk
   refine gc h ?_ ?_<;>intro _ h
   · exact wk
   refine gc h ?_ ?_<;>intro _ h
   · exact wk
   refine gs ?_;refine CW.region ?_;refine gs ?_;obtain⟨ay,V,ai⟩:=ob h;refine CW.jn [0,2,4,6,7,16] [0,1,2,3] [(121,.bool ay)] ap (h1:=?_) (h2:=?_)
   · have h:=V;refine CW.fl [0,2,4,6,7,16,121] fun e=>?_;exact wk
   intro e _ aq;have h:=ai;refine gf [0,2,4,6,7,16,121] fun e=>?_;refine gc h ?_ ?_<;>intro _ h
   · exact wk
   refine gs ?_;refine CW.region ?_;refine gs ?_;obtain⟨az,W,aj⟩:=ob h;refine CW.jn [0,2,4,6,7,16] [0,1,2,3] [(127,.bool az)] aq (h1:=?_) (h2:=?_)
   · have h:=W;exact wk
   intro e _ _;have h:=aj;exact wk
 intro e _ _;have h:=aB;refine T ?_;intro _ _ h _ g;obtain⟨d,X,ak⟩:=ob h;refine CW.j0 [0,6,7] [1] [] [bx I 99 [vS k m.b.length l,vI d.1,vI d.2.1],bx ah 63 [vI d.2.2.1,vI d.2.2.2.1,vI d.2.2.2.2.1,vI d.2.2.2.2.2.1,vI d.2.2.2.2.2.2,vI j.2.2.2.2.2.2]] g ?_ ?_
 · have h:=X;refine gf [0,6,7,167,168] fun e=>?_;refine gc h ?_ ?_<;>intro _ h
   · refine go ?_;refine LW.bi [-1,9223372036854775807] g ?_;intro _ _ _ _ hf;exact wk
   refine gc h ?_ ?_<;>intro _ h
   · refine go ?_;refine LW.bi [-1,9223372036854775807,1000] g ?_;intro _ _ _ _ hf;exact wk
   refine gc h ?_ ?_<;>intro _ h
   · refine go ?_;refine LW.bi [-1,9,1000,9223372036854775807] g ?_;intro _ _ _ _ hf;exact wk
   refine gc h ?_ ?_<;>intro _ h
   · refine go ?_;refine LW.bi [0, -1,1000,1001,9223372036854775807] g ?_;intro _ _ _ _ hf;exact wk
   refine gc h ?_ ?_<;>intro _ h
   · refine go ?_;refine LW.bi [0,18, -1] g ?_;intro _ _ _ _ hf;exact wk
   exact rt
 intro e _ _;have h:=ak;refine T ?_;intro _ J;replace h:=oi h;subst h;exact And.intro trivial ⟨_,gL.one (dE.b J 0 rfl Pz rfl rfl),rfl,J.pk [1]⟩
instance k_148:Ct prog 148:={h:=@GS}
theorem zU{w0}{F:List Nat}{N o r}(h:oY N o=some r){z:Nat}{d f}(C:dX (eJ w0 F) w0 d f o.b)(hS:St w0 F w0 [bx z 99 [vS d o.b.length f,vI o.i,vI o.h]]):
    di prog 104 #[.pointer (some ⟨z,0,none⟩)] w0 (fun v w=>∃g k j l,v=.agg (uB g r.1.Rp.Ro.length k j r.1.own.length l r.1)/\St w0 F w [sl g k r.1.Rp.Ro,sl j l r.1.own,bx z 99 [vS d o.b.length f,vI r.2.i,vI r.2.h]]):=by
 unfold oY at h;refine di.fn func104 fun e=>?_;refine T ?_;intro _ _ _ B _ h u x _ _ p _ h _ _ m _ h _ _ n _ h _ _;refine LW.bd [(0,vI p.1),(1,vI m.1),(2,vI n.1)] #[vI p.1,vI m.1,vI n.1] ?_;refine LW.bd [(0,.agg #[vS u B.1.Ro.length x]),(2,.agg #[vI p.1,vI m.1,vI n.1])] #[vS u B.1.Ro.length x,vS none 0 0,vI p.1,vI m.1,vI n.1] ?_;refine T ?_;intro _ A;replace h:=oi h;subst h;have q:=A.nil (α:=Int);exact And.intro trivial ⟨_,gL.one (dE.b q 3 rfl Pq rfl rfl),u,x,none,0,rfl,q.pk [2,0,1]⟩
instance k_104:Ct prog 104:={h:=@zU}
end Go.Kx
