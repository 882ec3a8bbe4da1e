import Derived.Test.YtlcgibcdiikheaaGreatWa14
import Derived.Test.YtlcgibcdiikheaaGreatWa16
namespace Go.Kx
open Go Go.RowKit Go.Proofs
open Tryz
set_option maxRecDepth 10000
set_option maxHeartbeats 8000000
set_option linter.unusedVariables false
set_option linter.unusedSimpArgs false
theorem Bp {w0 N b ak r} (h:sa N b ak=some r) {l z n} (C:z=b.ag.length) (H:rb w0 l n b.ag) {m A o} (G:A=b.gc.gQ.length) (am:rb w0 m o b.gc.gQ) :
    gV prog 300 #[.agg #[vS l z n,vI b.gc.Ph,vI b.gc.Pr,vI b.gc.Pj,vS m A o],vI ak] w0 (fun v w=>∃ d g, ∃ f j,v=.agg #[vS d r.ag.length g,vI r.gc.Ph,vI r.gc.Pr,vI r.gc.Pj,vS f r.gc.gQ.length j]∧St w0 [] w [sl d g r.ag,sl f j r.gc.gQ]):=by
 subst C G;unfold sa at h;refine gV.fn func300 fun e=>?_;have aO:=St.start w0;refine T ?_;intro bj bk aP ae bl aQ B aV h aa ac ab ad aZ aR I a0 aS a1 ai;obtain ⟨aj,M,af⟩:=ob h;refine CW.jn [1,2,4,5] [0,1,2,3,4] [(22,.bool aj)] ai (h1:=?_) (h2:=?_)
 · have h:=M;refine T ?_;intro bb aD h a2 aT;refine bH h ?_ ?_<;>intro _ h
   · refine T ?_;intro bc aE h a3 aU;refine bH h ?_ ?_<;>intro _ h
     · refine gb h fun bd R h=>?_;obtain ⟨aI,aW,an,rfl,aq,au,ax,⟨aF,aL,aG,aM,aH,aN,rfl,aA,aB,aC⟩,ar⟩:=H.idx R;refine go ?_;refine T ?_;exact rt
     exact rt
   exact rt
 intro e a4 k;have h:=af;refine gs ?_;obtain ⟨J,O,ah⟩:=ob h;refine CW.cut (fun e wb=>En e [(4,.pointer (some ⟨ae,0,none⟩)),(5,.pointer (some ⟨I,0,none⟩))]∧St w0 [] wb [bx I 45 [vS aa J.length ac,vI B.gc.Ph,vI B.gc.Pr,vI B.gc.Pj,vS ab B.gc.gQ.length ad],sl aa ac J,sl ab ad B.gc.gQ,bx ae 45 [vS none 0 0,vI 0,vI 0,vI 0,vS none 0 0]]) ?_ ?_
 · have h:=O;refine gc h ?_ ?_<;>intro _ h
   · refine gB h ?_ ?_<;>intro _ h
     · refine gb h fun be p h=>?_;obtain ⟨aJ,aX,hae,av,ay⟩:=k.hZ (α:=gP) (i:=1) rfl p;subst hae;refine go ?_;refine gb h fun bf q h=>?_;refine LW.se 9 k 1 p q (hM:=(iU (fun w cs F hF=>by obtain ⟨U,X,V,Y,W,Z,rfl,hH⟩:=hF;exact ⟨U,X,V,Y,W,Z,rfl,hH⟩))) fun a5 K=>?_;refine go ?_;rw [gS (oi q)] at K;exact rt
     refine gb h fun bg u h=>?_;obtain ⟨aK,aY,hae,aw,az⟩:=k.hZ (α:=gP) (i:=1) rfl u;subst hae;refine go ?_;refine gb h fun bi x h=>?_;refine LW.se 9 k 1 u x (hM:=(iU (fun w cs F hF=>by obtain ⟨U,X,V,Y,W,Z,rfl,hH⟩:=hF;exact ⟨U,X,V,Y,W,Z,rfl,hH⟩))) fun a7 L=>?_;refine go ?_;rw [gS (oi x)] at L;exact rt
   exact rt
 rintro e a9 ⟨hE,ao⟩;obtain ⟨e,rfl⟩:=hE.out;have h:=ah;refine T ?_;intro ba ap;exact rt
instance k_300:Ct prog 300:=⟨by kernel_rfl,@Bp⟩
theorem zK {w0 N j O r} (h:oO N j O=some r) {o x q} (A:x=j.ag.length) (R:rb w0 o q j.ag) {p z u} (B:z=j.gc.gQ.length) (U:rb w0 p u j.gc.gQ) :
    gV prog 324 #[.agg #[vS o x q,vI j.gc.Ph,vI j.gc.Pr,vI j.gc.Pj,vS p z u],vI O] w0 (fun v w=>∃ k m, ∃ l n,v=.agg #[vS k r.ag.length m,vI r.gc.Ph,vI r.gc.Pr,vI r.gc.Pj,vS l r.gc.gQ.length n]∧St w0 [] w [sl k m r.ag,sl l n r.gc.gQ]):=by
 subst A B;unfold oO at h;refine gV.fn func324 fun e=>?_;have af:=St.start w0;refine T ?_;intro aI aJ ah I aK ai aL ap h aE aG aF aH aq aj C ar ak au L;obtain ⟨M,G,J⟩:=ob h;refine CW.jn [1,4,5] [0,1,2,3] [(13,.bool M)] L (h1:=?_) (h2:=?_)
 · have h:=G;refine T ?_;intro aB Y h av am;refine bH h ?_ ?_<;>intro _ h
   · refine T ?_;intro aC Z h aw an;exact rt
   exact rt
 intro e ax ao;have h:=J;refine gs ?_;obtain ⟨b,H,K⟩:=ob h;refine CW.cut (fun e wb=>∃ (d:Ad) (g:Nat) (f:Ad) (i:Nat),En e [(4,.pointer (some ⟨I,0,none⟩)),(5,.pointer (some ⟨C,0,none⟩))]∧St w0 [] wb [bx C 45 [vS d b.1.length g,vI b.2.1,vI b.2.2.1,vI b.2.2.2.1,vS f b.2.2.2.2.length i],bx I 45 [vS none 0 0,vI 0,vI 0,vI 0,vS none 0 0],sl d g b.1,sl f i b.2.2.2.2]) ?_ ?_
 · have h:=H;refine gc h ?_ ?_<;>intro _ h
   · refine T ?_;intro aD aa h ab ad ac ae ay V;exact rt
   exact rt
 rintro e az ⟨d,g,f,i,hE,W⟩;obtain ⟨e,rfl⟩:=hE.out;have h:=K;refine T ?_;intro aA X;exact rt
instance k_324:Ct prog 324:=⟨by kernel_rfl,@zK⟩
theorem Db {w0 N L B b r} (h:pQ N L B b=some r) {g n k} (q:n=L.length) (z:rb w0 g k L) :
    gV prog 325 #[vS g n k,vI B,.agg #[vI b.gE,vI b.gX,vI b.g8]] w0 (fun v w=>∃ d f,v=.tuple #[vS d r.1.length f,vI r.2.1,.bool r.2.2]∧St w0 [] w [sl d f r.1]):=by
 subst q;unfold pQ at h;refine gV.fn func325 fun e=>?_;have ai:=St.start w0;refine T ?_;intro aD aE aj ac ap h aC I aF M;refine CW.fl [0,1,5,9,21] fun e=>?_;refine gc h ?_ ?_<;>intro _ h
 · exact rt
 refine go ?_;obtain ⟨H,J,C⟩:=ob h;refine CW.mono (CW.lx [0,1,5,9,23,24] [0,1] [0] 0 (fun A=>[(25,vI A)]) (fun r x e wb=>x=.ret∧∃ u,u=r∧∃ v,kz prog f325.results e wb v∧∃ d f,v=.tuple #[vS d u.1.length f,vI u.2.1,.bool u.2.2]∧St w0 [] wb [sl d f u.1]) M J (hb:=?_)) ?_
 · intro A e aG o ak h;refine gc h ?_ ?_<;>intro _ h
   · refine gb h fun az K h=>?_;obtain ⟨ae,aq,U,rfl,V,X,Z,rfl,W⟩:=z.idx K;refine go ?_;refine T ?_;intro ah au am av G;refine CW.fl [0,1,5,9,11,23,24,25,32] fun e=>?_;refine gc h ?_ ?_<;>intro _ h
     · refine jt [(0,.bool true),(1,vI B),(2,.agg #[vI b.gE,vI b.gX,vI b.g8])] #[.bool true,vI B,vI b.gE,vI b.gX,vI b.g8] ?_;have ⟨aA,l,h⟩:=ob h;obtain ⟨j,p,hae,Y,aa⟩:=G.hZ (α:=g6) (i:=1) rfl l;subst hae;refine go ?_;have ⟨R,m,h⟩:=ob h;refine LW.se 0 G 1 l m (hM:=ui) fun aw O=>?_;refine go ?_;replace h:=oi h;subst h;exact ⟨trivial,rfl,_,rfl,⟨_,kz.three (ij.t rfl) (ij.t rfl) (ij.t rfl),(some ⟨j,p,none⟩),I,(show (.tuple #[vS (some ⟨j,p,none⟩) ac.1.length I,vI A,.bool true]:Value)=.tuple #[vS (some ⟨j,p,none⟩) R.length I,vI A,.bool true] by rw [gS (oi m)]),O.pk [1]⟩⟩
     exact rt
   exact rt
 intro x e ax hM;rcases H with H | ar
 · obtain ⟨rfl,hM⟩:=hM;obtain ⟨e,rfl,an⟩:=eo hM;have h:=C;refine T ?_;intro aB ab h ad af ay ao;exact rt
 obtain ⟨rfl,u,rfl,hM⟩:=hM;cases C;exact And.intro trivial hM
instance k_325:Ct prog 325:=⟨by kernel_rfl,@Db⟩
theorem FP {w0 N B C r} (h:uO N B C=some r) {b i f} (k:i=B.length) (m:rb w0 b f B) {d j g} (l:j=C.length) (n:rb w0 d g C) :
    gV prog 101 #[vS b i f,vS d j g] w0 (fun v w=>v=.bool r∧St w0 [] w []):=by
 subst k l;unfold uO at h;refine gV.fn func101 fun e=>?_;have G:=St.start w0;refine gc h ?_ ?_<;>intro _ h
 · exact rt
 refine go ?_;obtain ⟨q,z,p⟩:=ob h;refine CW.mono (CW.lx [0,1] [] [] 0 (fun J=>[(5,vI J)]) (RT prog f101.results (fun u=>.bool u) w0 []) G z (hb:=?_)) ?_
 · intro J e a0 o H h;refine gc h ?_ ?_<;>intro _ h
   · refine jK ?_;have aN:=H.drew;refine gb h fun a1 I h=>?_;obtain ⟨aY,aZ,K,rfl,M,aQ,aR,⟨am,aB,an,aC,ao,aD,ap,aE,aq,aF,ar,aG,rfl,X,Y,Z,aa,ab,ac⟩,R⟩:=m.idx I;refine go ?_;refine T ?_;have ⟨aW,A,h⟩:=ob h;obtain ⟨aA,aS,L,rfl,O,V,W,⟨au,aH,av,aI,aw,aJ,ax,aK,ay,aL,az,aM,rfl,ad,ae,af,ah,ai,aj⟩,U⟩:=n.idx A;refine go ?_;refine T ?_;intro aX ak h aU aO;refine gc h ?_ ?_<;>intro _ h
     · exact rt
     exact rt
   exact rt
 intro x e aV hM;rcases q with q | aT
 · obtain ⟨rfl,hM⟩:=hM;obtain ⟨e,rfl,aP⟩:=eo hM;rw [show e=iq e [] from rfl];have h:=p;exact rt
 obtain ⟨rfl,u,rfl,hM⟩:=hM;cases p;exact And.intro trivial hM
instance k_101:Ct prog 101:=⟨by kernel_rfl,@FP⟩
theorem FR {w0 N i r} (h:sU N i=some r) {j W l} (Y:W=i.Pe.Pd.length) (K:rb w0 j l i.Pe.Pd) {k X m} (Z:X=i.own.length) (L:rb w0 k m i.own) :
    gV prog 199 #[.agg #[vS j W l,vS k X m,vI i.j6.gE,vI i.j6.gX,vI i.j6.g8]] w0 (fun v w=>∃ p B, ∃ q C, ∃ u G, ∃ x H, ∃ z I, ∃ A J,v=.tuple #[.agg #[vS p r.1.Pe.Pd.length B,vS q r.1.own.length C,vS u r.1.Pg.length G,vS x r.1.py.ag.length H,vI r.1.py.gc.Ph,vI r.1.py.gc.Pr,vI r.1.py.gc.Pj,vS z r.1.py.gc.gQ.length I,vS A r.1.gR.length J,vI r.1.Pn,vI r.1.Pp,vI r.1.cd.gE,vI r.1.cd.gX,vI r.1.cd.g8,vI r.1.g5,vI r.1.Pm],.bool r.2]∧St w0 [] w [sl p B r.1.Pe.Pd,sl q C r.1.own,sl u G r.1.Pg,sl x H r.1.py.ag,sl z I r.1.py.gc.gQ,sl A J r.1.gR]):=by
 subst Y Z;unfold sU at h;refine gV.fn func199 fun e=>?_;have aX:=St.start w0;refine vv aX fun bs bu aY=>?_;refine LW.al aY fun bt bv aZ=>?_;refine gb h fun a4 a3 h=>?_;refine LW.cl (zS a3) ?_;rintro _ bw ⟨aO,aV,rfl,hs⟩;have U:=aZ.add hs;refine gs ?_;obtain ⟨a5,a2,aW⟩:=ob h;refine CW.jn [1,2,4] [0,1,2] [(28,.bool a5)] U (h1:=?_) (h2:=?_)
 · have h:=a2;refine gb h fun bo aB h=>?_;refine LW.c0 (z4 aB rfl (U.rB K)) U fun ba V=>?_;refine gB h ?_ ?_<;>intro _ h
   · refine go ?_;cases oi h;exact V.po [0,1,2]
   refine gb h fun bp aC h=>?_;refine go ?_;refine LW.c0 (Cx aC rfl (V.rB L)) V fun bb am=>?_;refine gB h ?_ ?_<;>intro _ h
   · refine go ?_;cases oi h;exact am.po [0,1,2]
   refine go ?_;cases oi h;exact am.po [0,1,2]
 intro e bc an;have h:=aW;refine gc h ?_ ?_<;>intro _ h
 · refine jt [] #[vS none 0 0,vS none 0 0,vS none 0 0,vS none 0 0,vI 0,vI 0,vI 0,vS none 0 0,vS none 0 0,vI 0,vI 0,vI 0,vI 0,vI 0,vI 0,vI 0] ?_;refine LW.st an 1 fun be a0=>?_;refine go ?_;cases h;have a1:=a0.nil (α:=Int);have aq:=a1.nil (α:=Int);have ar:=aq.nil (α:=g6);have au:=ar.nil (α:=gP);have av:=au.nil (α:=Int);have O:=av.nil (α:=iB);exact Rc (ij.b O 7 rfl kU rfl rfl) tt ⟨none,0,none,0,none,0,none,0,none,0,none,0,rfl,O.pk [5,4,3,2,1,0]⟩
 refine gb h fun bq aD h=>?_;refine LW.cl (yX aD) ?_;rintro _ bf ⟨a7,a8,rfl,hs⟩;have aw:=an.add hs;refine LW.bi [-1, -1] aw ?_;intro aa af M n hf;refine LW.bd [(1,vI 4),(4,vI 1000000),(10,vS aa (([-1, -1]:List Int).length) af)] #[vI 0,vI 4,vI 0,vI 0,vI 1000000,vI 0,vI 0,vI 0,vI 0,.bool false,vS aa (([-1, -1]:List Int).length) af,vS none 0 0,vS none 0 0] ?_;have ⟨ap,aE,h⟩:=ob h;refine LW.cl (vX aE rfl (n.rI 1 rfl) rfl (n.rI 0 rfl) rfl (show iR (α:=Int) (jA M []) M none 0 [] from iR.nil _ _ _ _ (Nat.zero_le _)) rfl (show iR (α:=iM) (jA M []) M none 0 [] from iR.nil _ _ _ _ (Nat.zero_le _))) ?_;rintro _ bg ⟨ab,ah,rfl,hs⟩;have ax:=n.add hs;refine gb h fun g aF h=>?_;refine LW.cl (CG aF) ?_;rintro _ bj ⟨ac,ai,rfl,hs⟩;have o:=ax.add hs;refine LW.bd [(0,vS ab ap.1.length ah),(1,.agg #[vI g.Ph,vI g.Pr,vI g.Pj,vS ac g.gQ.length ai])] #[vS ab ap.1.length ah,vI g.Ph,vI g.Pr,vI g.Pj,vS ac g.gQ.length ai] ?_;refine gb h fun d aG h=>?_;refine LW.cl (xO aG rfl (o.rI 1 rfl) rfl (o.rI 0 rfl)) ?_;rintro _ bk ⟨ad,aj,ae,ak,rfl,hs⟩;have ay:=o.add hs;refine LW.al ay fun a9 bl az=>?_;refine LW.st az 0 fun ao f=>?_;refine jt [(0,.agg #[vS j i.Pe.Pd.length l]),(1,vS k i.own.length m),(2,vS aO a4.1.length aV),(3,.agg #[vS ad d.ag.length aj,vI d.gc.Ph,vI d.gc.Pr,vI d.gc.Pj,vS ae d.gc.gQ.length ak])] #[vS j i.Pe.Pd.length l,vS k i.own.length m,vS aO a4.1.length aV,vS ad d.ag.length aj,vI d.gc.Ph,vI d.gc.Pr,vI d.gc.Pj,vS ae d.gc.gQ.length ak,vS none 0 0,vI 0,vI 0,vI 0,vI 0,vI 0,vI 0,vI 0] ?_;have ⟨br,aH,h⟩:=ob h;refine LW.cl (zV aH rfl (f.rB K) rfl (f.rB L) rfl (f.rI 7 rfl) rfl (f.rI 1 rfl) rfl (f.rI 2 rfl) rfl (show iR (α:=iB) (jA ao []) ao none 0 [] from iR.nil _ _ _ _ (Nat.zero_le _))) ?_
 rintro _ bm ⟨aI,aP,aJ,aQ,aK,aR,aL,aS,aM,aT,aN,aU,rfl,hs⟩;have aA:=f.add hs;refine LW.st aA 14 fun bn R=>?_;refine go ?_;cases h;exact Rc (ij.b R 14 rfl kU rfl rfl) tt ⟨aI,aP,aJ,aQ,aK,aR,aL,aS,aM,aT,aN,aU,rfl,R.pk [0,1,2,3,4,5]⟩
instance k_199:Ct prog 199:=⟨by kernel_rfl,@FR⟩
end Go.Kx
