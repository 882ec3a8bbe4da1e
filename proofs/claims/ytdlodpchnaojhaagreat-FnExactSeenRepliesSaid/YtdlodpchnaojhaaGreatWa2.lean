import Derived.Test.YtdlodpchnaojhaaGreatWa0
import Derived.Test.YtdlodpchnaojhaaGreatWa14
namespace Go.Kx
open Go Go.RowKit Go.Proofs
open Go.IntKind (i64)
open Tryz
set_option maxRecDepth 10000
set_option maxHeartbeats 8000000
set_option linter.unusedVariables false
set_option linter.unusedSimpArgs false
theorem yb {w0 N i j r} (h:tI N i j=some r) {b f d} (g:f=i.length) (k:rb w0 b d i) :
    gV prog 22 #[vS b f d,vI j] w0 (fun v w=>v=vI r∧St w0 [] w []):=by
 subst g;unfold tI at h;refine gV.fn func22 fun e=>?_;have l:=St.start w0;refine gc h ?_ ?_<;>intro _ h
 · exact rt
 exact rt
instance k_22:Ct prog 22:=⟨by kernel_rfl,@yb⟩
theorem ye {w0 N r} (h:tC N=some r) :
    gV prog 276 #[] w0 (fun v w=>∃ l m,v=vS l r.length m∧St w0 [] w [sl l m r]):=by
 unfold tC at h;refine gV.fn func276 fun e=>?_;have x:=St.start w0;refine gb h fun u I h=>?_;refine LW.mk Gt rfl rfl I x rfl ?_;intro V g W A hf;refine go ?_;refine LW.bi [-1, -1] A ?_;intro f j X n hf;refine LW.bd [(1,vI 1),(2,vI (-1)),(4,vI 1000000),(10,vS f (([-1, -1]:List Int).length) j)] #[vI 0,vI 1,vI (-1),vI 0,vI 1000000,vI 0,vI 0,vI 0,vI 0,.bool false,vS f (([-1, -1]:List Int).length) j,vS none 0 0,vS none 0 0] ?_;have ⟨O,q,h⟩:=ob h;obtain ⟨d,b,hae,R,K⟩:=n.hZ (α:=gP) (i:=1) rfl q;subst hae;refine go ?_;have B:=n.nil (α:=Int);have C:=B.nil (α:=iS);have H:=C.pk (M:=[sl f j ([-1, -1]:List Int),sl none 0 [],sl none 0 []]++[sl (some ⟨d,b,none⟩) g u]) [2,1,0,3];have ⟨J,k,h⟩:=ob h;refine LW.uE (M:=[sl f j ([-1, -1]:List Int),sl none 0 [],sl none 0 []]) (L:=[sl (some ⟨d,b,none⟩) g u]) (z:=O) (z':=(gP.mk 0 1 (-1) 0 1000000 0 0 0 0 false ([-1, -1]:List Int) [] [])) (o:=0) H (i:=0) rfl q ud rfl (by show _=b+(0:Int).toNat * 13+0;omega) rfl rfl rfl rfl (whole (fun w G hG=>⟨f,j,none,0,none,0,rfl,hG⟩)) ?_;intro U p hf;rw [oi k] at p;refine go ?_;replace h:=oi h;subst h;exact Ra ⟨(some ⟨d,b,none⟩),g,(show (vS (some ⟨d,b,none⟩) u.length g:Value)=vS (some ⟨d,b,none⟩) J.length g by rw [gZ (oi k)]),p.pk [0]⟩
instance k_276:Ct prog 276:=⟨by kernel_rfl,@ye⟩
theorem BU {w0 N r} (h:vY N=some r) :
    gV prog 278 #[] w0 (fun v w=>∃ b d,v=.agg #[vI r.N2,vI r.Oa,vI r.N3,vS b r.gQ.length d]∧St w0 [] w [sl b d r.gQ]):=by
 unfold vY at h;refine gV.fn func278 fun e=>?_;have j:=St.start w0;refine T ?_;intro m n i;refine LW.bi [0] i ?_;intro f g o k hf;refine LW.bd [(3,vS f (([0]:List Int).length) g)] #[vI 0,vI 0,vI 0,vS f (([0]:List Int).length) g] ?_;refine T ?_;intro p l;exact rt
instance k_278:Ct prog 278:=⟨by kernel_rfl,@BU⟩
theorem GY {w0 N f g r} (h:tx N f g=some r) :
    gV prog 166 #[.agg #[vI f.N0,vI f.a,vI f.b,vI f.c,vI f.d,vI f.e],.agg #[vI g.N0,vI g.a,vI g.b,vI g.c,vI g.d,vI g.e]] w0 (fun v w=>v=.bool r∧St w0 [] w []):=by
 unfold tx at h;refine gV.fn func166 fun e=>?_;have i:=St.start w0;refine T ?_;intro l n j m o k;refine gc h ?_ ?_<;>intro _ h
 · exact rt
 refine jE [2,3,14] fun e=>?_;refine gc h ?_ ?_<;>intro _ h
 · exact rt
 refine gc h ?_ ?_<;>intro _ h
 · exact rt
 refine gc h ?_ ?_<;>intro _ h
 · exact rt
 refine jE [2,3,29] fun e=>?_;refine gc h ?_ ?_<;>intro _ h
 · exact rt
 refine gc h ?_ ?_<;>intro _ h
 · exact rt
 exact rt
instance k_166:Ct prog 166:=⟨by kernel_rfl,@GY⟩
theorem wK {w0} {F:List Nat} {N az aD r} (h:oW N az aD=some r) {m K g} (L:K=az.length) (hS:St w0 F w0 [sl m g az]) :
    gV prog 34 #[vS m K g,vI aD] w0 (fun v w=>v=vI r.1∧St w0 F w [sl m g r.2]):=by
 subst L;unfold oW at h;refine gV.fn func34 fun e=>?_;refine go ?_;obtain ⟨a3,ae,aB⟩:=ob h;refine CW.ie ae 0 (fun k e wb=>En e [(0,vS m k.1.length g),(1,vI k.2.1),(5,vI k.2.2)]∧St w0 F wb [sl m g k.1]) ?_ ⟨⟨rfl,rfl,rfl,trivial⟩,hS.pk [0]⟩ ?_
 · intro k e bn o hM h;obtain ⟨e,rfl,M⟩:=eo hM;refine gc h ?_ ?_<;>intro _ h
   · refine gb h fun bo aa h=>?_;obtain ⟨aA,aC,hae,aT,aU⟩:=M.hZ (α:=iA) (i:=0) rfl aa;subst hae;refine go ?_;refine gb h fun bp f h=>?_;refine LW.se 0 M 0 aa f (hM:=(je (fun w cs F hF=>by obtain ⟨rfl,rfl⟩:=hF;exact ⟨rfl,rfl⟩))) fun a4 O=>?_;refine gb h fun be x h=>?_;obtain ⟨aL,aV,hae,af,ap⟩:=O.hZ (α:=iA) (i:=0) rfl x;cases hae;(try refine LW.u (iq.ix underlying67 xp rfl rfl af (by rw [gZ (oi f)];exact ap)) rfl ?_);refine gb h fun aE b h=>?_;refine LW.se 1 O 0 x b (hM:=(je (fun w cs F hF=>by obtain ⟨rfl,rfl⟩:=hF;exact ⟨rfl,rfl⟩))) fun a5 R=>?_;refine go ?_;have ⟨bf,z,h⟩:=ob h;obtain ⟨aM,aW,hae,ah,aq⟩:=R.hZ (α:=iA) (i:=0) rfl z;cases hae;(try refine LW.u (iq.ix underlying67 xp rfl rfl ah (by rw [show k.1.length=aE.length from ((gZ (oi f)).trans (gZ (oi b)))];exact aq)) rfl ?_);refine gb h fun aF d h=>?_;refine LW.se 2 R 0 z d (hM:=(je (fun w cs F hF=>by obtain ⟨rfl,rfl⟩:=hF;exact ⟨rfl,rfl⟩))) fun a6 U=>?_;refine gb h fun bg A h=>?_;obtain ⟨aN,aX,hae,ai,ar⟩:=U.hZ (α:=iA) (i:=0) rfl A;cases hae;(try refine LW.u (iq.ix underlying67 xp rfl rfl ai (by rw [show k.1.length=aF.length from (((gZ (oi f)).trans (gZ (oi b))).trans (gZ (oi d)))];exact ar)) rfl ?_);refine gb h fun aG j h=>?_;refine LW.se 3 U 0 A j (hM:=(je (fun w cs F hF=>by obtain ⟨rfl,rfl⟩:=hF;exact ⟨rfl,rfl⟩))) fun a7 V=>?_;refine gb h fun bi B h=>?_;obtain ⟨aO,aY,hae,aj,au⟩:=V.hZ (α:=iA) (i:=0) rfl B;cases hae;(try refine LW.u (iq.ix underlying67 xp rfl rfl aj (by rw [show k.1.length=aG.length from ((((gZ (oi f)).trans (gZ (oi b))).trans (gZ (oi d))).trans (gZ (oi j)))];exact au)) rfl ?_);refine go ?_;have ⟨aH,l,h⟩:=ob h;refine LW.se 4 V 0 B l (hM:=(je (fun w cs F hF=>by obtain ⟨rfl,rfl⟩:=hF;exact ⟨rfl,rfl⟩))) fun a8 W=>?_;refine gb h fun bj C h=>?_;obtain ⟨aP,aZ,hae,ak,av⟩:=W.hZ (α:=iA) (i:=0) rfl C;cases hae;(try refine LW.u (iq.ix underlying67 xp rfl rfl ak (by rw [show k.1.length=aH.length from (((((gZ (oi f)).trans (gZ (oi b))).trans (gZ (oi d))).trans (gZ (oi j))).trans (gZ (oi l)))];exact av)) rfl ?_)
     refine gb h fun aI n h=>?_;refine LW.se 5 W 0 C n (hM:=(je (fun w cs F hF=>by obtain ⟨rfl,rfl⟩:=hF;exact ⟨rfl,rfl⟩))) fun a9 X=>?_;refine gb h fun bk G h=>?_;obtain ⟨aQ,a0,hae,am,aw⟩:=X.hZ (α:=iA) (i:=0) rfl G;cases hae;(try refine LW.u (iq.ix underlying67 xp rfl rfl am (by rw [show k.1.length=aI.length from ((((((gZ (oi f)).trans (gZ (oi b))).trans (gZ (oi d))).trans (gZ (oi j))).trans (gZ (oi l))).trans (gZ (oi n)))];exact aw)) rfl ?_);refine gb h fun aJ p h=>?_;refine LW.se 6 X 0 G p (hM:=(je (fun w cs F hF=>by obtain ⟨rfl,rfl⟩:=hF;exact ⟨rfl,rfl⟩))) fun ba Y=>?_;refine go ?_;have ⟨bl,H,h⟩:=ob h;obtain ⟨aR,a1,hae,an,ax⟩:=Y.hZ (α:=iA) (i:=0) rfl H;cases hae;(try refine LW.u (iq.ix underlying67 xp rfl rfl an (by rw [show k.1.length=aJ.length from (((((((gZ (oi f)).trans (gZ (oi b))).trans (gZ (oi d))).trans (gZ (oi j))).trans (gZ (oi l))).trans (gZ (oi n))).trans (gZ (oi p)))];exact ax)) rfl ?_);refine gb h fun aK q h=>?_;refine LW.se 7 Y 0 H q (hM:=(je (fun w cs F hF=>by obtain ⟨rfl,rfl⟩:=hF;exact ⟨rfl,rfl⟩))) fun bb Z=>?_;refine gb h fun bm I h=>?_;obtain ⟨aS,a2,hae,ao,ay⟩:=Z.hZ (α:=iA) (i:=0) rfl I;cases hae;(try refine LW.u (iq.ix underlying67 xp rfl rfl ao (by rw [show k.1.length=aK.length from ((((((((gZ (oi f)).trans (gZ (oi b))).trans (gZ (oi d))).trans (gZ (oi j))).trans (gZ (oi l))).trans (gZ (oi n))).trans (gZ (oi p))).trans (gZ (oi q)))];exact ay)) rfl ?_);refine gb h fun ab J h=>?_;refine LW.se 8 Z 0 I J (hM:=(je (fun w cs F hF=>by obtain ⟨rfl,rfl⟩:=hF;exact ⟨rfl,rfl⟩))) fun bc ac=>?_;refine go ?_;replace h:=oi h;subst h;exact ⟨rfl,⟨⟨(show (vS (some ⟨aA,aC,none⟩) k.1.length g:Value)=vS (some ⟨aA,aC,none⟩) ab.length g by rw [show k.1.length=ab.length from (((((((((gZ (oi f)).trans (gZ (oi b))).trans (gZ (oi d))).trans (gZ (oi j))).trans (gZ (oi l))).trans (gZ (oi n))).trans (gZ (oi p))).trans (gZ (oi q))).trans (gZ (oi J)))]),rfl,rfl,trivial⟩,ac.pk [0]⟩⟩
   exact rt
 rintro e bd ⟨hE,ad⟩;obtain ⟨e,rfl⟩:=hE.out;have h:=aB;refine go ?_;replace h:=oi h;subst h;exact Ra ⟨rfl,ad.pk [0]⟩
instance k_34:Ct prog 34:=⟨by kernel_rfl,@wK⟩
theorem w5 {w0} {F:List Nat} {N C L r} (h:oR N C L=some r) {d l b} (m:l=C.length) (hS:St w0 F w0 [sl d b C]) :
    gV prog 36 #[vS d l b,vI L] w0 (fun v w=>v=vI r.1∧St w0 F w [sl d b r.2]):=by
 subst m;unfold oR at h;refine gV.fn func36 fun e=>?_;refine go ?_;obtain ⟨V,z,H⟩:=ob h;refine CW.ie z 0 (fun f e wb=>En e [(0,vS d f.1.length b),(1,vI f.2.1),(5,vI f.2.2)]∧St w0 F wb [sl d b f.1]) ?_ ⟨⟨rfl,rfl,rfl,trivial⟩,hS.pk [0]⟩ ?_
 · intro f e aa o hM h;obtain ⟨e,rfl,n⟩:=eo hM;refine gc h ?_ ?_<;>intro _ h
   · refine gb h fun ab q h=>?_;obtain ⟨G,K,hae,O,R⟩:=n.hZ (α:=g6) (i:=0) rfl q;subst hae;refine go ?_;refine gb h fun ac k h=>?_;refine LW.se 0 n 0 q k (hM:=(je (fun w cs F hF=>by obtain ⟨rfl,rfl⟩:=hF;exact ⟨rfl,rfl⟩))) fun W p=>?_;refine gb h fun Z g h=>?_;obtain ⟨M,U,hae,A,B⟩:=p.hZ (α:=g6) (i:=0) rfl g;cases hae;(try refine LW.u (iq.ix underlying63 LZ rfl rfl A (by rw [gZ (oi k)];exact B)) rfl ?_);refine gb h fun x j h=>?_;refine LW.se 1 p 0 g j (hM:=(je (fun w cs F hF=>by obtain ⟨rfl,rfl⟩:=hF;exact ⟨rfl,rfl⟩))) fun X I=>?_;refine go ?_;replace h:=oi h;subst h;exact ⟨rfl,⟨⟨(show (vS (some ⟨G,K,none⟩) f.1.length b:Value)=vS (some ⟨G,K,none⟩) x.length b by rw [show f.1.length=x.length from ((gZ (oi k)).trans (gZ (oi j)))]),rfl,rfl,trivial⟩,I.pk [0]⟩⟩
   exact rt
 rintro e Y ⟨hE,J⟩;obtain ⟨e,rfl⟩:=hE.out;have h:=H;refine go ?_;replace h:=oi h;subst h;exact Ra ⟨rfl,J.pk [0]⟩
instance k_36:Ct prog 36:=⟨by kernel_rfl,@w5⟩
theorem tU {w0 N n z r} (h:na N n z=some r) {b f d} (g:f=n.length) (i:rb w0 b d n) :
    gV prog 37 #[vS b f d,vI z] w0 (fun v w=>v=vI r∧St w0 [] w []):=by
 subst g;unfold na at h;refine gV.fn func37 fun e=>?_;have p:=St.start w0;refine go ?_;obtain ⟨k,l,j⟩:=ob h;refine CW.mono (CW.lx [0] [] [1] 0 (fun m=>[(1,vI m.1),(5,vI m.2)]) (RT prog f37.results (fun u=>vI u) w0 []) p l (hb:=?_)) ?_
 · intro m e R o G h;refine gc h ?_ ?_<;>intro _ h
   · refine gb h fun U q h=>?_;obtain ⟨M,O,C,rfl,A,I,J,rfl,B⟩:=i.idx q;refine go ?_;refine T ?_;refine CW.fl [0,1,5,18] fun e=>?_;refine gc h ?_ ?_<;>intro _ h
     · exact rt
     refine go ?_;refine T ?_;refine gc h ?_ ?_<;>intro _ h
     · exact rt
     exact rt
   exact rt
 intro x e L hM;rcases k with k | K
 · obtain ⟨rfl,hM⟩:=hM;obtain ⟨e,rfl,H⟩:=eo hM;have h:=j;exact rt
 obtain ⟨rfl,u,rfl,hM⟩:=hM;cases j;exact And.intro trivial hM
instance k_37:Ct prog 37:=⟨by kernel_rfl,@tU⟩
theorem tH {w0 N B C r} (h:oM N B C=some r) {b i f} (k:i=B.length) (m:rb w0 b f B) {d j g} (l:j=C.length) (n:rb w0 d g C) :
    gV prog 29 #[vS b i f,vS d j g] w0 (fun v w=>v=.bool r∧St w0 [] w []):=by
 subst k l;unfold oM at h;refine gV.fn func29 fun e=>?_;have G:=St.start w0;refine gc h ?_ ?_<;>intro _ h
 · exact rt
 refine go ?_;obtain ⟨q,z,p⟩:=ob h;refine CW.mono (CW.lx [0,1] [] [] 0 (fun J=>[(5,vI J)]) (RT prog f29.results (fun u=>.bool u) w0 []) G z (hb:=?_)) ?_
 · intro J e ao o H h;refine gc h ?_ ?_<;>intro _ h
   · refine jA ?_;have Z:=H.drew;refine gb h fun ap I h=>?_;obtain ⟨am,an,K,rfl,M,ac,ad,rfl,R⟩:=m.idx I;refine go ?_;refine T ?_;have ⟨aj,A,h⟩:=ob h;obtain ⟨Y,ae,L,rfl,O,V,W,rfl,U⟩:=n.idx A;refine go ?_;refine T ?_;intro ak X h ah aa;refine gc h ?_ ?_<;>intro _ h
     · exact rt
     exact rt
   exact rt
 intro x e ai hM;rcases q with q | af
 · obtain ⟨rfl,hM⟩:=hM;obtain ⟨e,rfl,ab⟩:=eo hM;rw [show e=im e [] from rfl];have h:=p;exact rt
 obtain ⟨rfl,u,rfl,hM⟩:=hM;cases p;exact And.intro trivial hM
instance k_29:Ct prog 29:=⟨by kernel_rfl,@tH⟩
theorem E0 {w0 N f g r} (h:qo N f g=some r) :
    gV prog 92 #[.agg #[vI f.N0,vI f.NX,vI f.ig,vI f.call.N0,vI f.call.a,vI f.call.b,vI f.call.c,vI f.call.d,vI f.call.e],.agg #[vI g.N0,vI g.NX,vI g.ig,vI g.call.N0,vI g.call.a,vI g.call.b,vI g.call.c,vI g.call.d,vI g.call.e]] w0 (fun v w=>v=.bool r∧St w0 [] w []):=by
 unfold qo at h;refine gV.fn func92 fun e=>?_;have i:=St.start w0;refine T ?_;intro n p j o q k;refine gc h ?_ ?_<;>intro _ h
 · exact rt
 refine jE [2,3,14] fun e=>?_;refine gc h ?_ ?_<;>intro _ h
 · exact rt
 refine gc h ?_ ?_<;>intro _ h
 · exact rt
 refine T ?_;intro x m h u l;refine gc h ?_ ?_<;>intro _ h
 · exact rt
 exact rt
instance k_92:Ct prog 92:=⟨by kernel_rfl,@E0⟩
theorem uS {w0} {F:List Nat} {N ao az r} (h:mV N ao az=some r) {k R d} (V:R=ao.length) (hS:St w0 F w0 [sl k d ao]) :
    gV prog 33 #[vS k R d,vI az] w0 (fun v w=>v=vI r.1∧St w0 F w [sl k d r.2]):=by
 subst V;unfold mV at h;refine gV.fn func33 fun e=>?_;refine go ?_;obtain ⟨aO,ak,aq⟩:=ob h;refine CW.ie ak 0 (fun f e wb=>En e [(0,vS k f.1.length d),(1,vI f.2.1),(5,vI f.2.2)]∧St w0 F wb [sl k d f.1]) ?_ ⟨⟨rfl,rfl,rfl,trivial⟩,hS.pk [0]⟩ ?_
 · intro f e aX o hM h;obtain ⟨e,rfl,W⟩:=eo hM;refine gc h ?_ ?_<;>intro _ h
   · refine gb h fun g O h=>?_;obtain ⟨ap,U,hae,aL,aM⟩:=W.hZ (α:=iC) (i:=0) rfl O;subst hae;refine go ?_;obtain ⟨aW,M,X⟩:=W.freeze (α:=iC) 0 rfl;obtain ⟨aI,aN,aB,hae,ac,_,_,ae,ah⟩:=M.jk.idx O;cases hae;obtain ⟨p,x,q,z,rfl,aC,aD⟩:=ae;refine T ?_;have ⟨C,am,h⟩:=ob h;obtain ⟨aP,A,m⟩:=pA am;obtain ⟨K,m⟩:=iN m;rw [oi m] at A K;have ai:=fun (j:Nat) (u:Value) (hu:([vS p g.NZ.NY.length x,vS q g.own.length z,vI g.jU.gE,vI g.jU.gT,vI g.jU.g8]:List Value)[j]?=some u)=>(World.cell?_of_block (X.zC 0 rfl ac)).trans (ah j u hu);have ar:=X.iz (α:=iC) 0 rfl M;obtain ⟨aA,aj,af⟩:=ar.focus (α:=iC) (cs:=[vS p g.NZ.NY.length x,vS q g.own.length z,vI g.jU.gE,vI g.jU.gT,vI g.jU.g8]) 0 rfl O rfl ai;obtain ⟨aG,aJ,aH,aK,ad,Z⟩:=aj;cases ad;have au:=af [sl p x g.NZ.NY,sl q z g.own] Z;obtain ⟨aE,H⟩:=au.mZ [0] [1,2];refine LW.cl (tA A rfl H.st) ?_;rintro _ ay ⟨rfl,hs⟩;have J:=H.back _ _ hs;refine go ?_;refine LW.l (jf.jX ay zI rfl (J.v7 2 rfl (j:=1) rfl)) rfl rfl ?_;refine gb h fun b an h=>?_;obtain ⟨aQ,B,n⟩:=pA an;obtain ⟨L,n⟩:=iN n;rw [oi n] at B L;rw [show g.NZ.NY.length=C.2.length from K] at J;obtain ⟨aF,I⟩:=J.mZ [1] [0,2];refine LW.cl (tA B rfl I.st) ?_;rintro _ aR ⟨rfl,hs⟩;have av:=I.back _ _ hs;refine go ?_;refine LW.vN (α:=iC) (vs:=[vI b.1]) av 2 rfl mK rfl (by show _=U+(f.2.2:Int).toNat * 5+2;omega) rfl rfl rfl rfl ?_;intro aS aw hf;refine go ?_;refine LW.vN (α:=iC) (vs:=[vI (i64.wrap (b.1+1))]) aw 2 rfl mK rfl (by show _=U+(f.2.2:Int).toNat * 5+3;omega) rfl rfl rfl rfl ?_;intro aT ax hf;refine go ?_;refine LW.vN (α:=iC) (vs:=[vI (i64.wrap ((i64.wrap (b.1+1))+1))]) ax 2 rfl mK rfl (by show _=U+(f.2.2:Int).toNat * 5+4;omega) rfl rfl rfl rfl ?_;intro aU Y hf;refine go ?_;replace h:=oi h;subst h;rw [show g.own.length=b.2.length from L] at Y
     have aa:=Y.nC (iC.mk (iI.mk C.2) b.2 (hJ.mk b.1 (i64.wrap (b.1+1)) (i64.wrap ((i64.wrap (b.1+1))+1)))) [1,0,2] 2 0 rfl rfl (fun w G hG=>⟨p,x,q,z,rfl,hG⟩);exact ⟨rfl,⟨⟨(show (vS (some ⟨ap,U,none⟩) f.1.length d:Value)=vS (some ⟨ap,U,none⟩) ((f.1.set (f.2.2:Int).toNat (iC.mk (iI.mk C.2) b.2 (hJ.mk b.1 (i64.wrap (b.1+1)) (i64.wrap ((i64.wrap (b.1+1))+1))))).length) d by rw [show f.1.length=(f.1.set (f.2.2:Int).toNat (iC.mk (iI.mk C.2) b.2 (hJ.mk b.1 (i64.wrap (b.1+1)) (i64.wrap ((i64.wrap (b.1+1))+1))))).length from (gZ rfl)]),rfl,rfl,trivial⟩,aa.pk [0]⟩⟩
   exact rt
 rintro e aV ⟨hE,ab⟩;obtain ⟨e,rfl⟩:=hE.out;have h:=aq;refine go ?_;replace h:=oi h;subst h;exact Ra ⟨rfl,ab.pk [0]⟩
instance k_33:Ct prog 33:=⟨by kernel_rfl,@uS⟩
theorem A9 {w0 N b n r} (h:oQ N b n=some r) {d j g} (l:j=b.NZ.NY.length) (o:rb w0 d g b.NZ.NY) {f k i} (m:k=b.own.length) (p:rb w0 f i b.own) :
    gV prog 85 #[.agg #[vS d j g,vS f k i,vI b.jU.gE,vI b.jU.gT,vI b.jU.g8],vI n] w0 (fun v w=>v=vI r∧St w0 [] w []):=by
 subst l m;unfold oQ at h;refine gV.fn func85 fun e=>?_;have q:=St.start w0;refine T ?_;intro C G u J A h H x;refine gc h ?_ ?_<;>intro _ h
 · exact rt
 refine T ?_;intro K B h I z;refine CW.fl [1,16] fun e=>?_;refine gc h ?_ ?_<;>intro _ h
 · exact rt
 exact rt
instance k_85:Ct prog 85:=⟨by kernel_rfl,@A9⟩
theorem Bd {w0 N b r} (h:nj N b=some r) {j n l} (p:n=b.NZ.NY.length) (u:rb w0 j l b.NZ.NY) {k o m} (q:o=b.own.length) (x:rb w0 k m b.own) :
    gV prog 88 #[.agg #[vS j n l,vS k o m,vI b.jU.gE,vI b.jU.gT,vI b.jU.g8]] w0 (fun v w=>∃ d g, ∃ f i,v=.agg #[vS d r.NZ.NY.length g,vS f r.own.length i,vI r.jU.gE,vI r.jU.gT,vI r.jU.g8]∧St w0 [] w [sl d g r.NZ.NY,sl f i r.own]):=by
 subst p q;unfold nj at h;refine gV.fn func88 fun e=>?_;have I:=St.start w0;refine T ?_;intro aj an J ak ao K am ap L aq W h ah ai X M Y O ae B h G H Z R aa U af C h ab V ac z ad A;exact rt
instance k_88:Ct prog 88:=⟨by kernel_rfl,@Bd⟩
theorem qS {w0 N p r} (h:nq N p=some r) {b j d} (m:j=p.length) (n:rb w0 b d p) :
    gV prog 26 #[vS b j d] w0 (fun v w=>∃ q x,v=vS q r.length x∧St w0 [] w [sl q x r]):=by
 subst m;unfold nq at h;refine gV.fn func26 fun e=>?_;have H:=St.start w0;refine gb h fun ao K h=>?_;refine LW.mk Nt rfl rfl K H rfl ?_;intro C l am I hf;refine go ?_;obtain ⟨ae,B,G⟩:=ob h;refine CW.ie B 0 (fun k e wb=>En e [(0,vS b p.length d),(3,vS C k.1.length l),(4,vI k.2)]∧St w0 [] wb [sl C l k.1]) ?_ (I.po [0]) ?_
 · intro k e an o hM h;obtain ⟨e,rfl,aa⟩:=eo hM;refine gc h ?_ ?_<;>intro _ h
   · refine gb h fun ap L h=>?_;obtain ⟨Z,ad,O,rfl,R,ac,W,rfl,U⟩:=n.idx L;refine go ?_;refine T ?_;intro aj Y h af z;have ⟨ak,f,h⟩:=ob h;obtain ⟨u,A,hae,V,X⟩:=z.hZ (α:=iA) (i:=0) rfl f;subst hae;refine go ?_;have ⟨M,g,h⟩:=ob h;refine LW.se 0 z 0 f g (hM:=td) fun ah J=>?_;refine go ?_;replace h:=oi h;subst h;exact ⟨rfl,⟨⟨rfl,(show (vS (some ⟨u,A,none⟩) k.1.length l:Value)=vS (some ⟨u,A,none⟩) M.length l by rw [gZ (oi g)]),rfl,trivial⟩,J.pk [0]⟩⟩
   exact rt
 rintro e ai ⟨hE,ab⟩;obtain ⟨e,rfl⟩:=hE.out;have h:=G;exact rt
instance k_26:Ct prog 26:=⟨by kernel_rfl,@qS⟩
theorem AZ {w0 N b d r} (h:nb N b d=some r) {f o k} (x:o=b.NZ.NY.length) (C:rb w0 f k b.NZ.NY) {g p l} (z:p=b.own.length) (G:rb w0 g l b.own) {i q m} (A:q=d.NZ.NY.length) (H:rb w0 i m d.NZ.NY) {j u n} (B:u=d.own.length) (I:rb w0 j n d.own) :
    gV prog 91 #[.agg #[vS f o k,vS g p l,vI b.jU.gE,vI b.jU.gT,vI b.jU.g8],.agg #[vS i q m,vS j u n,vI d.jU.gE,vI d.jU.gT,vI d.jU.g8]] w0 (fun v w=>v=.bool r∧St w0 [] w []):=by
 subst x z A B;unfold nb at h;refine gV.fn func91 fun e=>?_;have K:=St.start w0;refine T ?_;intro Z ab L aa ac M af V h ad O;refine gc h ?_ ?_<;>intro _ h
 · exact rt
 refine T ?_;intro ah W h ae R;refine CW.fl [2,3,16] fun e=>?_;refine gc h ?_ ?_<;>intro _ h
 · exact rt
 refine T ?_;intro Y J h X U;refine gc h ?_ ?_<;>intro _ h
 · exact rt
 exact rt
instance k_91:Ct prog 91:=⟨by kernel_rfl,@AZ⟩
theorem xP {w0 N B C r} (h:tu N B C=some r) {b i f} (k:i=B.length) (m:rb w0 b f B) {d j g} (l:j=C.length) (n:rb w0 d g C) :
    gV prog 31 #[vS b i f,vS d j g] w0 (fun v w=>v=.bool r∧St w0 [] w []):=by
 subst k l;unfold tu at h;refine gV.fn func31 fun e=>?_;have G:=St.start w0;refine gc h ?_ ?_<;>intro _ h
 · exact rt
 refine go ?_;obtain ⟨q,z,p⟩:=ob h;refine CW.mono (CW.lx [0,1] [] [] 0 (fun J=>[(5,vI J)]) (RT prog f31.results (fun u=>.bool u) w0 []) G z (hb:=?_)) ?_
 · intro J e ao o H h;refine gc h ?_ ?_<;>intro _ h
   · refine jA ?_;have Z:=H.drew;refine gb h fun ap I h=>?_;obtain ⟨am,an,K,rfl,M,ac,ad,rfl,R⟩:=m.idx I;refine go ?_;refine T ?_;have ⟨aj,A,h⟩:=ob h;obtain ⟨Y,ae,L,rfl,O,V,W,rfl,U⟩:=n.idx A;refine go ?_;refine T ?_;intro ak X h ah aa;refine gc h ?_ ?_<;>intro _ h
     · exact rt
     exact rt
   exact rt
 intro x e ai hM;rcases q with q | af
 · obtain ⟨rfl,hM⟩:=hM;obtain ⟨e,rfl,ab⟩:=eo hM;rw [show e=im e [] from rfl];have h:=p;exact rt
 obtain ⟨rfl,u,rfl,hM⟩:=hM;cases p;exact And.intro trivial hM
instance k_31:Ct prog 31:=⟨by kernel_rfl,@xP⟩
theorem wo {w0 N n z r} (h:qv N n z=some r) {b f d} (g:f=n.length) (i:rb w0 b d n) :
    gV prog 21 #[vS b f d,vI z] w0 (fun v w=>v=vI r∧St w0 [] w []):=by
 subst g;unfold qv at h;refine gV.fn func21 fun e=>?_;have p:=St.start w0;refine gc h ?_ ?_<;>intro _ h
 · exact rt
 refine go ?_;obtain ⟨k,l,j⟩:=ob h;refine CW.mono (CW.lx [0] [] [1] 0 (fun m=>[(1,vI m.1),(5,vI m.2)]) (RT prog f21.results (fun u=>vI u) w0 []) p l (hb:=?_)) ?_
 · intro m e ad o O h;refine jE [0,1,5,15] fun e=>?_;refine gc h ?_ ?_<;>intro _ h
   · refine gb h fun ae q h=>?_;obtain ⟨ab,ac,A,rfl,B,V,W,⟨J,L,K,M,rfl,G,H⟩,C⟩:=i.idx q;refine go ?_;refine T ?_;intro aa I h Y R;refine gc h ?_ ?_<;>intro _ h
     · exact rt
     exact rt
   exact rt
 intro x e Z hM;rcases k with k | X
 · obtain ⟨rfl,hM⟩:=hM;obtain ⟨e,rfl,U⟩:=eo hM;have h:=j;exact rt
 obtain ⟨rfl,u,rfl,hM⟩:=hM;cases j;exact And.intro trivial hM
instance k_21:Ct prog 21:=⟨by kernel_rfl,@wo⟩
theorem nV {w0 N H r} (h:lO N H=some r) {g A j} (B:A=H.length) (C:rb w0 g j H) :
    gV prog 25 #[vS g A j] w0 (fun v w=>∃ I J,v=vS I r.length J∧St w0 [] w [sl I J r]):=by
 subst B;unfold lO at h;refine gV.fn func25 fun e=>?_;have W:=St.start w0;refine gb h fun aF Z h=>?_;refine LW.mk Ny rfl rfl Z W rfl ?_;intro U l aD X hf;refine go ?_;obtain ⟨az,R,V⟩:=ob h;refine CW.ie R 0 (fun d e wb=>En e [(0,vS g H.length j),(3,vS U d.1.length l),(4,vI d.2)]∧St w0 [] wb [sl U l d.1]) ?_ (X.po [0]) ?_
 · intro d e aE o hM h;obtain ⟨e,rfl,av⟩:=eo hM;refine gc h ?_ ?_<;>intro _ h
   · refine gb h fun aG aa h=>?_;obtain ⟨aq,ay,ad,rfl,ae,ax,ai,⟨ao,ar,ap,au,rfl,ak,am⟩,af⟩:=C.idx aa;refine go ?_;refine T ?_;intro f an h m p n q aA K;have ⟨ab,u,h⟩:=ob h;obtain ⟨k,b,hae,ah,aj⟩:=K.hZ (α:=iC) (i:=2) rfl u;subst hae;refine go ?_;have Y:=K.pk (M:=[sl m p f.NZ.NY,sl n q f.own]++[sl (some ⟨k,b,none⟩) l d.1]) [0,1,2];have ⟨ac,x,h⟩:=ob h;refine LW.uE (M:=[sl m p f.NZ.NY,sl n q f.own]) (L:=[sl (some ⟨k,b,none⟩) l d.1]) (z:=ab) (z':=f) (o:=0) Y (i:=0) rfl u JX rfl (by show _=b+(d.2:Int).toNat * 5+0;omega) rfl rfl rfl rfl (whole (fun w G hG=>⟨m,p,n,q,rfl,hG⟩)) ?_;intro aB O hf;rw [oi x] at O;refine go ?_;replace h:=oi h;subst h;exact ⟨rfl,⟨⟨rfl,(show (vS (some ⟨k,b,none⟩) d.1.length l:Value)=vS (some ⟨k,b,none⟩) ac.length l by rw [gZ (oi x)]),rfl,trivial⟩,O.pk [0]⟩⟩
   exact rt
 rintro e aC ⟨hE,aw⟩;obtain ⟨e,rfl⟩:=hE.out;have h:=V;exact rt
instance k_25:Ct prog 25:=⟨by kernel_rfl,@nV⟩
theorem wm {w0 N B C r} (h:qw N B C=some r) {b i f} (k:i=B.length) (m:rb w0 b f B) {d j g} (l:j=C.length) (n:rb w0 d g C) :
    gV prog 30 #[vS b i f,vS d j g] w0 (fun v w=>v=.bool r∧St w0 [] w []):=by
 subst k l;unfold qw at h;refine gV.fn func30 fun e=>?_;have G:=St.start w0;refine gc h ?_ ?_<;>intro _ h
 · exact rt
 refine go ?_;obtain ⟨q,z,p⟩:=ob h;refine CW.mono (CW.lx [0,1] [] [] 0 (fun J=>[(5,vI J)]) (RT prog f30.results (fun u=>.bool u) w0 []) G z (hb:=?_)) ?_
 · intro J e aC o H h;refine gc h ?_ ?_<;>intro _ h
   · refine jA ?_;have an:=H.drew;refine gb h fun aD I h=>?_;obtain ⟨aA,aB,K,rfl,M,aq,ar,⟨ac,ai,ad,aj,rfl,X,Y⟩,R⟩:=m.idx I;refine go ?_;refine T ?_;have ⟨ay,A,h⟩:=ob h;obtain ⟨ah,au,L,rfl,O,V,W,⟨ae,ak,af,am,rfl,Z,aa⟩,U⟩:=n.idx A;refine go ?_;refine T ?_;intro az ab h aw ao;refine gc h ?_ ?_<;>intro _ h
     · exact rt
     exact rt
   exact rt
 intro x e ax hM;rcases q with q | av
 · obtain ⟨rfl,hM⟩:=hM;obtain ⟨e,rfl,ap⟩:=eo hM;rw [show e=im e [] from rfl];have h:=p;exact rt
 obtain ⟨rfl,u,rfl,hM⟩:=hM;cases p;exact And.intro trivial hM
instance k_30:Ct prog 30:=⟨by kernel_rfl,@wm⟩
theorem GI {w0 N g r} (h:rK N g=some r) {b i d} (j:i=g.length) (k:rb w0 b d g) :
    gV prog 106 #[vS b i d] w0 (fun v w=>v=.bool r∧St w0 [] w []):=by
 subst j;unfold rK at h;refine gV.fn func106 fun e=>?_;have aj:=St.start w0;refine jj [] #[vI 0,vI 0,vI 0] ?_;refine T ?_;intro n aM ak aN A;refine go ?_;obtain ⟨m,q,l⟩:=ob h;refine CW.it q (fun f e wb=>En e [(0,vS b g.length d),(3,.pointer (some ⟨n,0,none⟩)),(9,vS b g.length d),(10,vI (g.length:Int)),(11,vI f.1)]∧St w0 [] wb [bx n 43 [vI f.2.1,vI f.2.2.1,vI f.2.2.2]]) (fun o x e wb=>match o with | .inl f=>x=.exit 0∧En e [(0,vS b g.length d)]∧St w0 [] wb [bx n 43 [vI f.2.1,vI f.2.2.1,vI f.2.2.2]] | .inr r=>x=.ret∧∃ u,u=r∧∃ v,kt prog f106.results e wb v∧v=.bool u∧St w0 [] wb []) ?_ (A.po [0]) ?_
 · intro f e aO o hM h;obtain ⟨e,rfl,am⟩:=eo hM;refine gc h ?_ ?_<;>intro _ h
   · refine gb h fun aP C h=>?_;obtain ⟨ad,av,H,rfl,R,ar,au,⟨ab,ae,ac,af,rfl,V,W⟩,U⟩:=k.idx C;refine go ?_;refine T ?_;intro ah ax an ay ao aI X h az ap ai aA aq aB B;obtain ⟨G,p,z⟩:=ob h;refine CW.jn [0,3,6,9,10,11] [0,2] [(35,.bool G)] B (h1:=?_) (h2:=?_)
     · have h:=p;refine go ?_;refine bH h ?_ ?_<;>intro _ h
       · exact rt
       refine T ?_;intro aJ Y h aC I;refine bH h ?_ ?_<;>intro _ h
       · exact rt
       refine T ?_;intro aK Z h aD J;exact rt
     intro e aE K;have h:=z;refine jE [0,3,6,9,10,11,35] fun e=>?_;refine gc h ?_ ?_<;>intro _ h
     · exact rt
     refine T ?_;intro aF L;exact rt
   exact rt
 intro x e aG hM;rcases m with m | aw
 · obtain ⟨rfl,hM⟩:=hM;obtain ⟨e,rfl,M⟩:=eo hM;have h:=l;refine T ?_;intro aL aa h aH O;exact rt
 obtain ⟨rfl,u,rfl,hM⟩:=hM;cases l;exact And.intro trivial hM
instance k_106:Ct prog 106:=⟨by kernel_rfl,@GI⟩
theorem yV {w0 N b r} (h:r6 N b=some r) :
    gV prog 274 #[.agg #[vI b.gE,vI b.gT,vI b.g8]] w0 (fun v w=>∃ j k,v=.tuple #[vS j r.1.length k,.bool r.2]∧St w0 [] w [sl j k r.1]):=by
 unfold r6 at h;refine gV.fn func274 fun e=>?_;have B:=St.start w0;refine T ?_;intro M O p;have ⟨A,u,h⟩:=ob h;refine LW.mk G7 rfl rfl u p rfl ?_;intro L o R l hf;refine jj [(0,.bool true),(1,vI (-1)),(2,.agg #[vI b.gE,vI b.gT,vI b.g8])] #[.bool true,vI (-1),vI b.gE,vI b.gT,vI b.g8] ?_;have ⟨U,n,h⟩:=ob h;obtain ⟨d,g,hae,G,H⟩:=l.hZ (α:=g7) (i:=0) rfl n;subst hae;refine go ?_;have ⟨x,f,h⟩:=ob h;refine LW.se 0 l 0 n f (hM:=td) fun I C=>?_;refine T ?_;intro K z h J m;refine CW.fl [4,12] fun e=>?_;refine gc h ?_ ?_<;>intro _ h
 · refine go ?_;cases h;have q:=m.nil (α:=g7);exact Rc tt tt ⟨none,0,rfl,q.pk [0]⟩
 refine go ?_;replace h:=oi h;subst h;exact Rc tt tt ⟨(some ⟨d,g,none⟩),o,(show (.tuple #[vS (some ⟨d,g,none⟩) A.length o,.bool true]:Value)=.tuple #[vS (some ⟨d,g,none⟩) x.length o,.bool true] by rw [gZ (oi f)]),m.pk [0]⟩
instance k_274:Ct prog 274:=⟨by kernel_rfl,@yV⟩
theorem EM {w0 N M r} (h:su N M=some r) {ar aN az} (aP:aN=M.NZ.NY.length) (G:rb w0 ar az M.NZ.NY) {au aO aA} (aQ:aO=M.own.length) (k:rb w0 au aA M.own) :
    gV prog 187 #[.agg #[vS ar aN az,vS au aO aA,vI M.jU.gE,vI M.jU.gT,vI M.jU.g8]] w0 (fun v w=>∃ Y af, ∃ Z ah, ∃ aa ai, ∃ ab aj, ∃ ac ak, ∃ ad am,v=.tuple #[.agg #[vS Y r.1.NZ.NY.length af,vS Z r.1.own.length ah,vS aa r.1.N1.length ai,vS ab r.1.py.ag.length aj,vI r.1.py.gc.N2,vI r.1.py.gc.Oa,vI r.1.py.gc.N3,vS ac r.1.py.gc.gQ.length ak,vS ad r.1.gR.length am,vI r.1.N6,vI r.1.N7,vI r.1.bh.gE,vI r.1.bh.gT,vI r.1.bh.g8,vI r.1.gW,vI r.1.N5],.bool r.2]∧St w0 [] w [sl Y af r.1.NZ.NY,sl Z ah r.1.own,sl aa ai r.1.N1,sl ab aj r.1.py.ag,sl ac ak r.1.py.gc.gQ,sl ad am r.1.gR]):=by
 subst aP aQ;unfold su at h;refine gV.fn func187 fun e=>?_;have bL:=St.start w0;refine tK bL fun cp cq bM=>?_;refine LW.al bM fun bE cr bN=>?_;refine gb h fun aq bS h=>?_;refine LW.cl (yV bS) ?_;rintro _ ct ⟨B,C,rfl,hs⟩;have an:=bN.add hs;refine gs ?_;obtain ⟨bT,bR,bJ⟩:=ob h;refine CW.jn [1,2,4] [0,1,2] [(28,.bool bT)] an (h1:=?_) (h2:=?_)
 · have h:=bR;refine gB h ?_ ?_<;>intro _ h
   · refine go ?_;cases oi h;exact an.po [0,1,2]
   refine gb h fun ck br h=>?_;refine go ?_;refine LW.c0 (zd br rfl (an.rB G)) an fun bW aK=>?_;refine gB h ?_ ?_<;>intro _ h
   · refine go ?_;cases oi h;exact aK.po [0,1,2]
   refine gb h fun cm bs h=>?_;refine go ?_;refine LW.c0 (BR bs rfl (aK.rB k)) aK fun bX bO=>?_;refine go ?_;cases oi h;exact bO.po [0,1,2]
 intro e bY aV;have h:=bJ;refine gc h ?_ ?_<;>intro _ h
 · refine jj [] #[vS none 0 0,vS none 0 0,vS none 0 0,vS none 0 0,vI 0,vI 0,vI 0,vS none 0 0,vS none 0 0,vI 0,vI 0,vI 0,vI 0,vI 0,vI 0,vI 0] ?_;refine LW.st aV 1 fun bZ bP=>?_;refine go ?_;cases h;have bQ:=bP.nil (α:=Int);have aX:=bQ.nil (α:=Int);have aY:=aX.nil (α:=g7);have aZ:=aY.nil (α:=gP);have a0:=aZ.nil (α:=Int);have aF:=a0.nil (α:=iL);exact Rc (ib.b aF 7 rfl kF rfl rfl) tt ⟨none,0,none,0,none,0,none,0,none,0,none,0,rfl,aF.pk [5,4,3,2,1,0]⟩
 refine gb h fun cn bt h=>?_;refine LW.cl (ye bt) ?_;rintro _ b0 ⟨bU,bV,rfl,hs⟩;have a1:=aV.add hs;refine LW.bi [-1, -1] a1 ?_;intro aR aT ao R hf;refine LW.bd [(1,vI 4),(4,vI 1000000),(10,vS aR (([-1, -1]:List Int).length) aT)] #[vI 0,vI 4,vI 0,vI 0,vI 1000000,vI 0,vI 0,vI 0,vI 0,.bool false,vS aR (([-1, -1]:List Int).length) aT,vS none 0 0,vS none 0 0] ?_;have ⟨O,bu,h⟩:=ob h;refine LW.cl (xR bu rfl (R.rI 1 rfl) rfl (R.rI 0 rfl) rfl (show iM (α:=Int) (jo ao []) ao none 0 [] from iM.nil _ _ _ _ (Nat.zero_le _)) rfl (show iM (α:=iS) (jo ao []) ao none 0 [] from iM.nil _ _ _ _ (Nat.zero_le _))) ?_;rintro _ b1 ⟨X,ae,rfl,hs⟩;have a2:=R.add hs;refine gs ?_;obtain ⟨d,bq,bK⟩:=ob h;refine CW.cut (fun e wb=>∃ (L:Nat) (l:Ad) (o:Nat) (m:Ad) (p:Nat) (n:Ad) (q:Nat) (H:Ad) (J:Nat) (I:Ad) (K:Nat) (f:Ad) (g:Nat),En e [(2,.pointer (some ⟨bE,0,none⟩)),(6,vS X O.1.length ae),(7,vI O.2),(8,.pointer (some ⟨L,0,none⟩))]∧St w0 [] wb [sl X ae O.1,bx bE 45 [vS none 0 0,vS none 0 0,vS none 0 0,vS none 0 0,vI 0,vI 0,vI 0,vS none 0 0,vS none 0 0,vI 0,vI 0,vI 0,vI 0,vI 0,vI 0,vI 0],bx L 45 [vS l d.1.length o,vS m d.2.1.length p,vS n d.2.2.1.length q,vS H d.2.2.2.1.length J,vI 0,vI 0,vI 0,vS I d.2.2.2.2.1.length K,vS f d.2.2.2.2.2.length g,vI 0,vI 0,vI 0,vI 0,vI 0,vI 0,vI 0],sl l o d.1,sl m p d.2.1,sl n q d.2.2.1,sl H J d.2.2.2.1,sl I K d.2.2.2.2.1,sl f g d.2.2.2.2.2]) ?_ ?_
 · have h:=bq;refine dW ?_;have U:=a2.drew;refine gb h fun A aL h=>?_;refine AW.all (rs:=[2,8]) (by kernel_rfl) (by simp) ⟨?_,?_,trivial⟩
   · refine ⟨_,rfl,?_⟩;refine LW.cl (uQ aL rfl (U.rB G)) ?_;rintro _ b2 ⟨x,z,rfl,hs⟩;have V:=U.add hs;refine jn ?_;have ⟨ap,aM,h⟩:=ob h;refine AW.all (rs:=[5,8]) (by kernel_rfl) (by simp) ⟨?_,?_,trivial⟩
     · refine ⟨_,rfl,?_⟩;refine LW.cl (tw aM rfl (V.rB k)) ?_;rintro _ b3 ⟨av,aB,rfl,hs⟩;have a3:=V.add hs;refine jn ?_;refine AW.u (i:=7) rfl (by kernel_rfl) rfl rfl (iq.build (vs:=[(0,.agg #[vS x A.NY.length z]),(1,vS av ap.length aB),(2,vS B aq.1.length C)]) (cs:=#[vS x A.NY.length z,vS av ap.length aB,vS B aq.1.length C,vS none 0 0,vI 0,vI 0,vI 0,vS none 0 0,vS none 0 0,vI 0,vI 0,vI 0,vI 0,vI 0,vI 0,vI 0]) rfl (by kernel_rfl)) ?_;refine jO 8 ?_;refine LW.al a3 fun bF b4 a4=>?_;refine jn ?_;refine jO 9 ?_;refine LW.st a4 0 fun b5 a5=>?_;refine jn ?_;refine go ?_;have a7:=a5.nil (α:=gP);have a8:=a7.nil (α:=Int);have a9:=a8.nil (α:=iL);cases oi h;exact ⟨bF,x,z,av,aB,B,C,none,0,none,0,none,0,a9.po [6,10,3,5,4,9,2,1,0]⟩
     refine ⟨_,rfl,?_⟩;refine LW.al V fun bG b6 aG=>?_;refine jn ?_;refine jO 5 ?_;refine LW.cl (tw aM rfl (aG.rB k)) ?_;rintro _ b7 ⟨aw,aC,rfl,hs⟩;have ba:=aG.add hs;refine jn ?_;refine AW.u (i:=7) rfl (by kernel_rfl) rfl rfl (iq.build (vs:=[(0,.agg #[vS x A.NY.length z]),(1,vS aw ap.length aC),(2,vS B aq.1.length C)]) (cs:=#[vS x A.NY.length z,vS aw ap.length aC,vS B aq.1.length C,vS none 0 0,vI 0,vI 0,vI 0,vS none 0 0,vS none 0 0,vI 0,vI 0,vI 0,vI 0,vI 0,vI 0,vI 0]) rfl (by kernel_rfl)) ?_;refine jO 9 ?_;refine LW.st ba 1 fun b8 bb=>?_;refine jn ?_;refine go ?_;have bc:=bb.nil (α:=gP);have be:=bc.nil (α:=Int);have bf:=be.nil (α:=iL);cases oi h;exact ⟨bG,x,z,aw,aC,B,C,none,0,none,0,none,0,bf.po [6,10,4,5,3,9,2,1,0]⟩
   refine ⟨_,rfl,?_⟩;refine LW.al U fun bI b9 aH=>?_;refine jn ?_;refine jO 2 ?_;refine LW.cl (uQ aL rfl (aH.rB G)) ?_;rintro _ ca ⟨ax,aD,rfl,hs⟩;have aI:=aH.add hs;refine jn ?_;have ⟨aW,bv,h⟩:=ob h;refine jO 5 ?_;refine LW.cl (tw bv rfl (aI.rB k)) ?_;rintro _ cb ⟨ay,aE,rfl,hs⟩;have bg:=aI.add hs;refine jn ?_;refine AW.u (i:=7) rfl (by kernel_rfl) rfl rfl (iq.build (vs:=[(0,.agg #[vS ax A.NY.length aD]),(1,vS ay aW.length aE),(2,vS B aq.1.length C)]) (cs:=#[vS ax A.NY.length aD,vS ay aW.length aE,vS B aq.1.length C,vS none 0 0,vI 0,vI 0,vI 0,vS none 0 0,vS none 0 0,vI 0,vI 0,vI 0,vI 0,vI 0,vI 0,vI 0]) rfl (by kernel_rfl)) ?_;refine jO 9 ?_;refine LW.st bg 2 fun cc bj=>?_;refine jn ?_;refine go ?_;have bk:=bj.nil (α:=gP);have bl:=bk.nil (α:=Int);have bm:=bl.nil (α:=iL);cases oi h;exact ⟨bI,ax,aD,ay,aE,B,C,none,0,none,0,none,0,bm.po [6,10,5,4,3,9,2,1,0]⟩
 rintro e ce ⟨L,l,o,m,p,n,q,H,J,I,K,f,g,hE,bn⟩;obtain ⟨e,rfl⟩:=hE.out;have h:=bK;refine gb h fun j bw h=>?_;refine LW.cl (BU bw) ?_;rintro _ cf ⟨aS,aU,rfl,hs⟩;have W:=bn.add hs;refine LW.bd [(0,vS X O.1.length ae),(1,.agg #[vI j.N2,vI j.Oa,vI j.N3,vS aS j.gQ.length aU])] #[vS X O.1.length ae,vI j.N2,vI j.Oa,vI j.N3,vS aS j.gQ.length aU] ?_;refine gb h fun co bz h=>?_;refine LW.cl (AI bz rfl (W.rI 1 rfl) rfl (W.rI 0 rfl)) ?_;rintro _ cg ⟨bA,bC,bB,bD,rfl,hs⟩;have bo:=W.add hs;refine uz bo 5 fun ci bp=>?_;refine uz bp 4 fun cj aJ=>?_;refine go ?_;cases h;exact Rc (ib.b aJ 4 rfl kF rfl rfl) tt ⟨l,o,m,p,n,q,bA,bC,bB,bD,f,g,rfl,aJ.pk [6,7,8,0,1,11]⟩
instance k_187:Ct prog 187:=⟨by kernel_rfl,@EM⟩
end Go.Kx
