import Derived.Test.YtdlodpchnaojhaaGreatWa7
namespace Go.Kx
open Go Go.RowKit Go.Proofs
open Tryz
set_option maxRecDepth 10000
set_option maxHeartbeats 8000000
set_option linter.unusedVariables false
set_option linter.unusedSimpArgs false
theorem xY {w0 N r} (h:tg N=some r) :
    gV prog 272 #[] w0 (fun v w=>∃ l m,v=vS l r.length m∧St w0 [] w [sl l m r]):=by
 unfold tg at h;refine gV.fn func272 fun e=>?_;have x:=St.start w0;refine gb h fun u I h=>?_;refine LW.mk Gt rfl rfl I x rfl ?_;intro V g W A hf;refine go ?_;refine LW.bi [-1, -1] A ?_;intro f j X n hf;refine LW.bd [(1,vI 1),(2,vI (-1)),(4,vI 1000000),(10,vS f (([-1, -1]:List Int).length) j)] #[vI 0,vI 1,vI (-1),vI 0,vI 1000000,vI 0,vI 0,vI 0,vI 0,.bool false,vS f (([-1, -1]:List Int).length) j,vS none 0 0,vS none 0 0] ?_;have ⟨O,q,h⟩:=ob h;obtain ⟨d,b,hae,R,K⟩:=n.hZ (α:=gP) (i:=1) rfl q;subst hae;refine go ?_;have B:=n.nil (α:=Int);have C:=B.nil (α:=iS);have H:=C.pk (M:=[sl f j ([-1, -1]:List Int),sl none 0 [],sl none 0 []]++[sl (some ⟨d,b,none⟩) g u]) [2,1,0,3];have ⟨J,k,h⟩:=ob h;refine LW.uE (M:=[sl f j ([-1, -1]:List Int),sl none 0 [],sl none 0 []]) (L:=[sl (some ⟨d,b,none⟩) g u]) (z:=O) (z':=(gP.mk 0 1 (-1) 0 1000000 0 0 0 0 false ([-1, -1]:List Int) [] [])) (o:=0) H (i:=0) rfl q ud rfl (by show _=b+(0:Int).toNat * 13+0;omega) rfl rfl rfl rfl (whole (fun w G hG=>⟨f,j,none,0,none,0,rfl,hG⟩)) ?_;intro U p hf;rw [oi k] at p;refine go ?_;replace h:=oi h;subst h;exact Ra ⟨(some ⟨d,b,none⟩),g,(show (vS (some ⟨d,b,none⟩) u.length g:Value)=vS (some ⟨d,b,none⟩) J.length g by rw [gZ (oi k)]),p.pk [0]⟩
instance k_272:Ct prog 272:=⟨by kernel_rfl,@xY⟩
theorem BE {w0 N r} (h:wk N=some r) :
    gV prog 273 #[] w0 (fun v w=>∃ b d,v=.agg #[vI r.N2,vI r.Oa,vI r.N3,vS b r.gQ.length d]∧St w0 [] w [sl b d r.gQ]):=by
 unfold wk at h;refine gV.fn func273 fun e=>?_;have j:=St.start w0;refine T ?_;intro m n i;refine LW.bi [0] i ?_;intro f g o k hf;refine LW.bd [(3,vS f (([0]:List Int).length) g)] #[vI 0,vI 0,vI 0,vS f (([0]:List Int).length) g] ?_;refine T ?_;intro p l;exact rt
instance k_273:Ct prog 273:=⟨by kernel_rfl,@BE⟩
theorem za {w0 N b r} (h:ss N b=some r) :
    gV prog 271 #[.agg #[vI b.gE,vI b.gT,vI b.g8]] w0 (fun v w=>∃ l m,v=.tuple #[vS l r.1.length m,.bool r.2]∧St w0 [] w [sl l m r.1]):=by
 unfold ss at h;refine gV.fn func271 fun e=>?_;have C:=St.start w0;refine T ?_;intro R U G X I h V n;refine gc h ?_ ?_<;>intro _ h
 · refine go ?_;refine LW.b0 (α:=g7) n ?_;intro M O W H hf;exact rt
 refine gb h fun A q h=>?_;refine LW.mk G7 rfl rfl q n rfl ?_;intro B f J o hf;refine jj [(0,.bool true),(1,vI (-1)),(2,.agg #[vI b.gE,vI b.gT,vI b.g8])] #[.bool true,vI (-1),vI b.gE,vI b.gT,vI b.g8] ?_;have ⟨L,g,h⟩:=ob h;obtain ⟨d,k,hae,x,z⟩:=o.hZ (α:=g7) (i:=0) rfl g;subst hae;refine go ?_;have ⟨u,j,h⟩:=ob h;refine LW.se 0 o 0 g j (hM:=td) fun K p=>?_;refine go ?_;replace h:=oi h;subst h;exact Rc tt tt ⟨(some ⟨d,k,none⟩),f,(show (.tuple #[vS (some ⟨d,k,none⟩) A.length f,.bool true]:Value)=.tuple #[vS (some ⟨d,k,none⟩) u.length f,.bool true] by rw [gZ (oi j)]),p.pk [0]⟩
instance k_271:Ct prog 271:=⟨by kernel_rfl,@za⟩
theorem Gh {w0 N k r} (h:rn N k=some r) {d m f} (n:m=k.length) (i:rb w0 d f k) :
    gV prog 104 #[vS d m f] w0 (fun v w=>v=.bool r∧St w0 [] w []):=by
 subst n;unfold rn at h;refine gV.fn func104 fun e=>?_;have aO:=St.start w0;refine jj [] #[vI 0,vI 0,vI 0] ?_;refine T ?_;intro l bf aP bg J;refine go ?_;obtain ⟨q,B,p⟩:=ob h;refine CW.it B (fun b e wb=>En e [(0,vS d k.length f),(3,.pointer (some ⟨l,0,none⟩)),(4,vI b.1)]∧St w0 [] wb [bx l 43 [vI b.2.1,vI b.2.2.1,vI b.2.2.2]]) (fun o x e wb=>match o with | .inl b=>x=.exit 0∧En e [(0,vS d k.length f)]∧St w0 [] wb [bx l 43 [vI b.2.1,vI b.2.2.1,vI b.2.2.2]] | .inr r=>x=.ret∧∃ u,u=r∧∃ v,kt prog f104.results e wb v∧v=.bool u∧St w0 [] wb []) ?_ (J.po [0]) ?_
 · intro b e bi o hM h;obtain ⟨e,rfl,K⟩:=eo hM;refine gs ?_;obtain ⟨aB,O,W⟩:=ob h;refine CW.jn [0,3,4] [0] [(15,.bool aB)] K (h1:=?_) (h2:=?_)
   · have h:=O;refine gB h ?_ ?_<;>intro _ h
     · exact rt
     exact rt
   intro e bj L;have h:=W;refine gc h ?_ ?_<;>intro _ h
   · refine gs ?_;refine CW.block ?_;refine gs ?_;obtain ⟨R,z,H⟩:=ob h;refine CW.jn [0,3,4] [0] [(33,.bool R)] L (h1:=?_) (h2:=?_)
     · have h:=z;refine gb h fun a9 C h=>?_;obtain ⟨aG,aT,U,rfl,ai,an,ap,⟨aC,aI,aD,aJ,rfl,ar,au⟩,ak⟩:=i.idx C;refine go ?_;refine T ?_;intro ba ax h aW aQ;refine bH h ?_ ?_<;>intro _ h
       · exact rt
       refine go ?_;refine T ?_;intro bb ay h aX aR;exact rt
     intro e aY M;have h:=H;refine gc h ?_ ?_<;>intro _ h
     · exact rt
     refine gs ?_;obtain ⟨j,A,I⟩:=ob h;refine CW.cut (fun e wb=>∃ (g:Nat),En e [(0,vS d k.length f),(3,.pointer (some ⟨l,0,none⟩)),(4,vI b.1),(5,.pointer (some ⟨g,0,none⟩)),(6,.bool j.2.2.2)]∧St w0 [] wb [bx l 43 [vI b.2.1,vI b.2.2.1,vI b.2.2.2],bx g 43 [vI j.1,vI j.2.1,vI j.2.2.1]]) ?_ ?_
     · have h:=A;refine dW ?_;have aS:=M.drew;refine gb h fun bc G h=>?_;obtain ⟨aH,aU,V,rfl,aj,ao,aq,⟨aE,aK,aF,aL,rfl,av,aw⟩,am⟩:=i.idx G;refine go ?_;refine T ?_;have ⟨bd,az,h⟩:=ob h;refine AW.all (rs:=[6,10]) (by kernel_rfl) (by simp) ⟨?_,?_,trivial⟩
       · refine oA ?_;refine T ?_;intro aZ X aM a0 Y a1 Z;exact rt
       refine oA ?_;refine T ?_;intro aN a2 aa;refine jP 6 ?_;refine T ?_;intro a3 ab a4 ac;exact rt
     rintro e a5 ⟨g,hE,ad⟩;obtain ⟨e,rfl⟩:=hE.out;have h:=I;refine gc h ?_ ?_<;>intro _ h
     · exact rt
     refine T ?_;intro a6 ae;exact rt
   exact rt
 intro x e a7 hM;rcases q with q | aV
 · obtain ⟨rfl,hM⟩:=hM;obtain ⟨e,rfl,af⟩:=eo hM;have h:=p;refine T ?_;intro be aA h a8 ah;exact rt
 obtain ⟨rfl,u,rfl,hM⟩:=hM;cases p;exact And.intro trivial hM
instance k_104:Ct prog 104:=⟨by kernel_rfl,@Gh⟩
theorem EA {w0 N i r} (h:rP N i=some r) {j W l} (Y:W=i.NZ.NY.length) (K:rb w0 j l i.NZ.NY) {k X m} (Z:X=i.own.length) (L:rb w0 k m i.own) :
    gV prog 183 #[.agg #[vS j W l,vS k X m,vI i.jU.gE,vI i.jU.gT,vI i.jU.g8]] w0 (fun v w=>∃ p B, ∃ q C, ∃ u G, ∃ x H, ∃ z I, ∃ A J,v=.tuple #[.agg #[vS p r.1.NZ.NY.length B,vS q r.1.own.length C,vS u r.1.N1.length G,vS x r.1.py.ag.length H,vI r.1.py.gc.N2,vI r.1.py.gc.Oa,vI r.1.py.gc.N3,vS z r.1.py.gc.gQ.length I,vS A r.1.gR.length J,vI r.1.N6,vI r.1.N7,vI r.1.bh.gE,vI r.1.bh.gT,vI r.1.bh.g8,vI r.1.gW,vI r.1.N5],.bool r.2]∧St w0 [] w [sl p B r.1.NZ.NY,sl q C r.1.own,sl u G r.1.N1,sl x H r.1.py.ag,sl z I r.1.py.gc.gQ,sl A J r.1.gR]):=by
 subst Y Z;unfold rP at h;refine gV.fn func183 fun e=>?_;have aX:=St.start w0;refine tK aX fun bs bu aY=>?_;refine LW.al aY fun bt bv aZ=>?_;refine gb h fun a4 a3 h=>?_;refine LW.cl (za a3) ?_;rintro _ bw ⟨aO,aV,rfl,hs⟩;have U:=aZ.add hs;refine gs ?_;obtain ⟨a5,a2,aW⟩:=ob h;refine CW.jn [1,2,4] [0,1,2] [(28,.bool a5)] U (h1:=?_) (h2:=?_)
 · have h:=a2;refine gb h fun bo aB h=>?_;refine LW.c0 (zl aB rfl (U.rB K)) U fun ba V=>?_;refine gB h ?_ ?_<;>intro _ h
   · refine go ?_;cases oi h;exact V.po [0,1,2]
   refine gb h fun bp aC h=>?_;refine go ?_;refine LW.c0 (Bz aC rfl (V.rB L)) V fun bb am=>?_;refine gB h ?_ ?_<;>intro _ h
   · refine go ?_;cases oi h;exact am.po [0,1,2]
   refine go ?_;cases oi h;exact am.po [0,1,2]
 intro e bc an;have h:=aW;refine gc h ?_ ?_<;>intro _ h
 · refine jj [] #[vS none 0 0,vS none 0 0,vS none 0 0,vS none 0 0,vI 0,vI 0,vI 0,vS none 0 0,vS none 0 0,vI 0,vI 0,vI 0,vI 0,vI 0,vI 0,vI 0] ?_;refine LW.st an 1 fun be a0=>?_;refine go ?_;cases h;have a1:=a0.nil (α:=Int);have aq:=a1.nil (α:=Int);have ar:=aq.nil (α:=g7);have au:=ar.nil (α:=gP);have av:=au.nil (α:=Int);have O:=av.nil (α:=iL);exact Rc (ib.b O 7 rfl kF rfl rfl) tt ⟨none,0,none,0,none,0,none,0,none,0,none,0,rfl,O.pk [5,4,3,2,1,0]⟩
 refine gb h fun bq aD h=>?_;refine LW.cl (xY aD) ?_;rintro _ bf ⟨a7,a8,rfl,hs⟩;have aw:=an.add hs;refine LW.bi [-1, -1] aw ?_;intro aa af M n hf;refine LW.bd [(1,vI 4),(4,vI 1000000),(10,vS aa (([-1, -1]:List Int).length) af)] #[vI 0,vI 4,vI 0,vI 0,vI 1000000,vI 0,vI 0,vI 0,vI 0,.bool false,vS aa (([-1, -1]:List Int).length) af,vS none 0 0,vS none 0 0] ?_;have ⟨ap,aE,h⟩:=ob h;refine LW.cl (vP aE rfl (n.rI 1 rfl) rfl (n.rI 0 rfl) rfl (show iM (α:=Int) (jo M []) M none 0 [] from iM.nil _ _ _ _ (Nat.zero_le _)) rfl (show iM (α:=iS) (jo M []) M none 0 [] from iM.nil _ _ _ _ (Nat.zero_le _))) ?_;rintro _ bg ⟨ab,ah,rfl,hs⟩;have ax:=n.add hs;refine gb h fun g aF h=>?_;refine LW.cl (BE aF) ?_;rintro _ bj ⟨ac,ai,rfl,hs⟩;have o:=ax.add hs;refine LW.bd [(0,vS ab ap.1.length ah),(1,.agg #[vI g.N2,vI g.Oa,vI g.N3,vS ac g.gQ.length ai])] #[vS ab ap.1.length ah,vI g.N2,vI g.Oa,vI g.N3,vS ac g.gQ.length ai] ?_;refine gb h fun d aG h=>?_;refine LW.cl (xF aG rfl (o.rI 1 rfl) rfl (o.rI 0 rfl)) ?_;rintro _ bk ⟨ad,aj,ae,ak,rfl,hs⟩;have ay:=o.add hs;refine LW.al ay fun a9 bl az=>?_;refine LW.st az 0 fun ao f=>?_;refine jj [(0,.agg #[vS j i.NZ.NY.length l]),(1,vS k i.own.length m),(2,vS aO a4.1.length aV),(3,.agg #[vS ad d.ag.length aj,vI d.gc.N2,vI d.gc.Oa,vI d.gc.N3,vS ae d.gc.gQ.length ak])] #[vS j i.NZ.NY.length l,vS k i.own.length m,vS aO a4.1.length aV,vS ad d.ag.length aj,vI d.gc.N2,vI d.gc.Oa,vI d.gc.N3,vS ae d.gc.gQ.length ak,vS none 0 0,vI 0,vI 0,vI 0,vI 0,vI 0,vI 0,vI 0] ?_;have ⟨br,aH,h⟩:=ob h;refine LW.cl (ze aH rfl (f.rB K) rfl (f.rB L) rfl (f.rI 7 rfl) rfl (f.rI 1 rfl) rfl (f.rI 2 rfl) rfl (show iM (α:=iL) (jo ao []) ao none 0 [] from iM.nil _ _ _ _ (Nat.zero_le _))) ?_
 rintro _ bm ⟨aI,aP,aJ,aQ,aK,aR,aL,aS,aM,aT,aN,aU,rfl,hs⟩;have aA:=f.add hs;refine LW.st aA 14 fun bn R=>?_;refine go ?_;cases h;exact Rc (ib.b R 14 rfl kF rfl rfl) tt ⟨aI,aP,aJ,aQ,aK,aR,aL,aS,aM,aT,aN,aU,rfl,R.pk [0,1,2,3,4,5]⟩
instance k_183:Ct prog 183:=⟨by kernel_rfl,@EA⟩
theorem Db {w0 N X r} (h:qI N X=some r) {H O I} (V:O=X.length) (W:rb w0 H I X) :
    gV prog 105 #[vS H O I] w0 (fun v w=>∃ J K,v=.agg #[vI r.Oc,vS J r.parts.length K]∧St w0 [] w [sl J K r.parts]):=by
 subst V;unfold qI at h;refine gV.fn func105 fun e=>?_;have aI:=St.start w0;refine T ?_;intro R a1 aJ;refine LW.bd [] #[vI 0,vS none 0 0] ?_;refine T ?_;intro U a2 aK a3 aL a6 aN h a4 ah;refine gc h ?_ ?_<;>intro _ h
 · refine T ?_;intro a5 ai;cases h;have Z:=ai.nil (α:=cd);exact And.intro trivial ⟨_,kt.one (ib.b Z 2 rfl pz rfl rfl),none,0,rfl,Z.pk [0]⟩
 refine go ?_;have aj:=ah.nil (α:=cd);obtain ⟨aP,ac,af⟩:=ob h;refine CW.ie ac 0 (fun j e wb=>∃ (f:Ad) (g:Nat),En e [(0,vS H X.length I),(2,.pointer (some ⟨R,0,none⟩)),(3,.pointer (some ⟨U,0,none⟩)),(4,vI j.1)]∧St w0 [] wb [bx U 26 [vI 0,vS f j.2.length g],bx R 26 [vI 0,vS none 0 0],sl f g j.2]) ?_ ⟨none,0,aj.po [1,2,0]⟩ ?_
 · intro j e aR o hM h;obtain ⟨f,g,hE,aM⟩:=hM;obtain ⟨e,rfl⟩:=hE.out;refine gc h ?_ ?_<;>intro _ h
   · refine gb h fun aZ ad h=>?_;obtain ⟨aE,aO,ak,rfl,au,aw,ax,⟨aB,aF,aC,aG,rfl,ay,az⟩,av⟩:=W.idx ad;refine go ?_;refine T ?_;intro d aA h k u l x m z n A p B q C aS am Y aT an aU aa;have ab:=aa.pk (M:=[sl k u d.1.NZ.NY,sl l x d.1.own,sl m z d.1.N1,sl n A d.1.py.ag,sl p B d.1.py.gc.gQ,sl q C d.1.gR]++[bx Y 45 (qP k u l x m z n A p B q C d.1),bx U 26 [vI 0,vS f j.2.length g],bx R 26 [vI 0,vS none 0 0],sl f g j.2]) [1,2,3,4,5,6,0,7,8,9];have ⟨a0,ae,h⟩:=ob h;refine LW.j6 (M:=[sl k u d.1.NZ.NY,sl l x d.1.own,sl m z d.1.N1,sl n A d.1.py.ag,sl p B d.1.py.gc.gQ,sl q C d.1.gR]) (L:=[bx Y 45 (qP k u l x m z n A p B q C d.1),bx U 26 [vI 0,vS f j.2.length g],bx R 26 [vI 0,vS none 0 0],sl f g j.2]) (vs:=#[vS k d.1.NZ.NY.length u,vS l d.1.own.length x,vS m d.1.N1.length z,vS n d.1.py.ag.length A,vI d.1.py.gc.N2,vI d.1.py.gc.Oa,vI d.1.py.gc.N3,vS p d.1.py.gc.gQ.length B,vS q d.1.gR.length C,vI d.1.N6,vI d.1.N7,vI d.1.bh.gE,vI d.1.bh.gT,vI d.1.bh.g8,vI d.1.gW,vI d.1.N5]) (i:=3) Bi rfl (by kernel_rfl) rfl rfl ae ab rfl (fun w G hG=>⟨k,u,l,x,m,z,n,A,p,B,q,C,rfl,hG⟩) rfl rfl ?_;intro aQ aD aH aV ao hf;refine T ?_;intro aW ap;exact rt
   exact rt
 rintro e aX ⟨f,g,hE,aq⟩;obtain ⟨e,rfl⟩:=hE.out;have h:=af;refine T ?_;intro aY ar;exact rt
instance k_105:Ct prog 105:=⟨by kernel_rfl,@Db⟩
end Go.Kx
