/- Each call returns what the plain function says. Printed by drive.py. -/
import Derived.Test.YtikeaiogpfjdnaaGreatFa
import Derived.Test.YtikeaiogpfjdnaaGreatPu
import Derived.Test.YtikeaiogpfjdnaaGreatWa0
import Derived.Test.YtikeaiogpfjdnaaGreatWa1
namespace Go.Kx
open Go Go.RowKit Go.Proofs
set_option maxRecDepth 10000
set_option maxHeartbeats 8000000
set_option linter.unusedVariables false
set_option linter.unusedSimpArgs false
theorem FW {w0 N V Z r} (h:wu N V Z=some r) {m p n} (q:p=V.length) (s:rb w0 m n V) :
    pT Tryz.prog 132 #[vS m p n,vI Z] w0 (fun v w=>v=vI r∧St w0 [] w []):=by
 subst q;unfold wu at h;refine pT.fn Tryz.func132 fun e=>?_;have W:=St.start w0;refine go ?_;obtain ⟨y,z,t⟩:=ob h;refine CW.mono (CW.lx [0] [] [1] 0 (fun U=>[(1,vI U.1),(5,vI U.2)]) (RT Tryz.prog Tryz.f132.results (fun u=>vI u) w0 []) W z (hb:=?_)) ?_
 · intro U e aJ o f h;refine gc h ?_ ?_ <;> intro _ h
   · refine gb h fun aK Y h=>?_;obtain ⟨aH,aI,ao,rfl,a,ap,aq,⟨aa,ah,ab,ai,ac,aj,ad,ak,ae,am,af,an,rfl,A,B,C,G,H,I⟩,b⟩:=s.idx Y;refine go ?_;refine LW.l (pZ.qk w0 tw rfl (b 0 _ rfl)) (f.same _ a.1 a.2) rfl ?_;refine gb h fun aB J h=>?_;refine LW.c0 (wZ J rfl (f.rB A)) f fun au g=>?_;refine go ?_;refine CW.fl [0,1,5,21] fun e=>?_;refine gc h ?_ ?_ <;> intro _ h
     · refine go ?_;cases oi h;exact ⟨trivial,rfl,_,rfl,rx ⟨rfl,g.pk []⟩⟩
     refine go ?_;refine LW.l (pZ.qk w0 tw rfl (b 1 _ rfl)) (g.same _ a.1 a.2) rfl ?_;refine gb h fun aC K h=>?_;refine LW.c0 (wZ K rfl (g.rB B)) g fun av i=>?_;refine gc h ?_ ?_ <;> intro _ h
     · refine go ?_;cases oi h;exact ⟨trivial,rfl,_,rfl,rx ⟨rfl,i.pk []⟩⟩
     refine go ?_;refine LW.l (pZ.qk w0 Ha rfl (b 2 _ rfl)) (i.same _ a.1 a.2) rfl ?_;refine gb h fun aD L h=>?_;refine LW.c0 (Gq L rfl (i.rB C)) i fun aw j=>?_;refine go ?_;refine CW.fl [0,1,5,39] fun e=>?_;refine gc h ?_ ?_ <;> intro _ h
     · refine go ?_;cases oi h;exact ⟨trivial,rfl,_,rfl,rx ⟨rfl,j.pk []⟩⟩
     refine go ?_;refine LW.l (pZ.qk w0 Ch rfl (b 3 _ rfl)) (j.same _ a.1 a.2) rfl ?_;refine gb h fun aE M h=>?_;refine LW.c0 (GB M rfl (j.rB G)) j fun ax d=>?_;refine gc h ?_ ?_ <;> intro _ h
     · refine go ?_;cases oi h;exact ⟨trivial,rfl,_,rfl,rx ⟨rfl,d.pk []⟩⟩
     refine go ?_;refine LW.l (pZ.qk w0 qA rfl (b 4 _ rfl)) (d.same _ a.1 a.2) rfl ?_;refine go ?_;refine CW.fl [0,1,5,58] fun e=>?_;refine gc h ?_ ?_ <;> intro _ h
     · refine go ?_;cases oi h;exact ⟨trivial,rfl,_,rfl,rx ⟨rfl,d.pk []⟩⟩
     refine go ?_;refine LW.l (pZ.qk w0 qA rfl (b 5 _ rfl)) (d.same _ a.1 a.2) rfl ?_;refine gc h ?_ ?_ <;> intro _ h
     · refine go ?_;cases oi h;exact ⟨trivial,rfl,_,rfl,rx ⟨rfl,d.pk []⟩⟩
     refine go ?_;refine LW.l (pZ.qk w0 qA rfl (b 6 _ rfl)) (d.same _ a.1 a.2) rfl ?_;refine go ?_;refine CW.fl [0,1,5,80] fun e=>?_;refine gc h ?_ ?_ <;> intro _ h
     · refine go ?_;cases oi h;exact ⟨trivial,rfl,_,rfl,rx ⟨rfl,d.pk []⟩⟩
     refine go ?_;refine LW.l (pZ.qk w0 tw rfl (b 7 _ rfl)) (d.same _ a.1 a.2) rfl ?_;refine gb h fun aF O h=>?_;refine LW.c0 (wZ O rfl (d.rB H)) d fun ay k=>?_;refine go ?_;refine CW.fl [0,1,5,93] fun e=>?_;refine gc h ?_ ?_ <;> intro _ h
     · refine go ?_;cases oi h;exact ⟨trivial,rfl,_,rfl,rx ⟨rfl,k.pk []⟩⟩
     refine go ?_;refine LW.l (pZ.qk w0 zU rfl (b 8 _ rfl)) (k.same _ a.1 a.2) rfl ?_;refine gb h fun aG R h=>?_;refine LW.c0 (GX R rfl (k.rB I)) k fun az c=>?_;refine gc h ?_ ?_ <;> intro _ h
     · refine go ?_;cases oi h;exact ⟨trivial,rfl,_,rfl,rx ⟨rfl,c.pk []⟩⟩
     refine go ?_;refine LW.l (pZ.qk w0 qA rfl (b 9 _ rfl)) (c.same _ a.1 a.2) rfl ?_;refine go ?_;refine CW.fl [0,1,5,109] fun e=>?_;refine gc h ?_ ?_ <;> intro _ h
     · refine go ?_;cases oi h;exact ⟨trivial,rfl,_,rfl,rx ⟨rfl,c.pk []⟩⟩
     refine go ?_;refine LW.l (pZ.qk w0 qA rfl (b 10 _ rfl)) (c.same _ a.1 a.2) rfl ?_;refine gc h ?_ ?_ <;> intro _ h
     · refine go ?_;cases oi h;exact ⟨trivial,rfl,_,rfl,rx ⟨rfl,c.pk []⟩⟩
     refine go ?_;refine LW.l (pZ.qk w0 qA rfl (b 11 _ rfl)) (c.same _ a.1 a.2) rfl ?_;refine go ?_;refine CW.fl [0,1,5,128] fun e=>?_;refine gc h ?_ ?_ <;> intro _ h
     · refine go ?_;cases oi h;exact ⟨trivial,rfl,_,rfl,rx ⟨rfl,c.pk []⟩⟩
     refine go ?_;refine LW.l (pZ.qk w0 qA rfl (b 12 _ rfl)) (c.same _ a.1 a.2) rfl ?_;refine gc h ?_ ?_ <;> intro _ h
     · refine go ?_;cases oi h;exact ⟨trivial,rfl,_,rfl,rx ⟨rfl,c.pk []⟩⟩
     refine go ?_;refine LW.l (pZ.qk w0 qA rfl (b 13 _ rfl)) (c.same _ a.1 a.2) rfl ?_;refine go ?_;refine CW.fl [0,1,5,148] fun e=>?_;refine gc h ?_ ?_ <;> intro _ h
     · refine go ?_;cases oi h;exact ⟨trivial,rfl,_,rfl,rx ⟨rfl,c.pk []⟩⟩
     refine go ?_;refine LW.l (pZ.qk w0 qA rfl (b 14 _ rfl)) (c.same _ a.1 a.2) rfl ?_;refine gc h ?_ ?_ <;> intro _ h
     · refine go ?_;cases oi h;exact ⟨trivial,rfl,_,rfl,rx ⟨rfl,c.pk []⟩⟩
     refine go ?_;refine LW.l (pZ.qk w0 qA rfl (b 15 _ rfl)) (c.same _ a.1 a.2) rfl ?_;refine go ?_;refine CW.fl [0,1,5,166] fun e=>?_;refine gc h ?_ ?_ <;> intro _ h
     · refine go ?_;cases oi h;exact ⟨trivial,rfl,_,rfl,rx ⟨rfl,c.pk []⟩⟩
     refine go ?_;cases oi h;exact ⟨rfl,(c.po [])⟩
   refine go ?_;cases oi h;exact ⟨trivial,rfl,(f.po [])⟩
 intro x e aA hM;rcases y with y | ar
 · obtain ⟨rfl,hM⟩:=hM;obtain ⟨hE,X⟩:=hM;obtain ⟨e,rfl⟩:=hE.out;have h:=t;refine go ?_;cases h;exact fi X
 obtain ⟨rfl,u,rfl,hM⟩:=hM;cases t;exact And.intro trivial hM
theorem I1 {w0 N a u r} (h:AR N a u=some r) {b i d} (k:i=a.ag.length) (m:rb w0 b d a.ag) {c j f} (l:j=a.gc.j8.length) (n:rb w0 c f a.gc.j8) :
    pT Tryz.prog 264 #[.agg #[vS b i d,vI a.gc.phase,vI a.gc.pos,vI a.gc.round,vS c j f],vI u] w0 (fun v w=>v=vI r∧St w0 [] w []):=by
 subst k l;unfold AR at h;refine pT.fn Tryz.func264 fun e=>?_;have q:=St.start w0;refine go ?_;refine LW.bo q fun x y o=>?_;refine gb h fun B s h=>?_;refine LW.c0 (JC s rfl (o.rB m)) o fun z g=>?_;refine gc h ?_ ?_ <;> intro _ h
 · refine go ?_;cases h;exact fi g
 refine gb h fun C t h=>?_;refine LW.c0 (K4 t rfl (g.rB n)) g fun A p=>?_;refine go ?_;refine CW.fl [1,16] fun e=>?_;refine gc h ?_ ?_ <;> intro _ h
 · refine go ?_;cases h;exact fi p
 refine go ?_;cases h;exact fi p
theorem I9 {w0 N J r} (h:AA N J=some r) {f C g} (H:C=J.length) (I:rb w0 f g J) :
    pT Tryz.prog 298 #[vS f C g] w0 (fun v w=>∃ K O,v=vS K r.length O∧St w0 [] w [sl K O r]):=by
 subst H;unfold AA at h;refine pT.fn Tryz.func298 fun e=>?_;have ae:=St.start w0;refine gb h fun aI aj h=>?_;refine LW.mk LA rfl rfl aj ae rfl ?_;intro W k aG af hf;refine go ?_;obtain ⟨aC,Y,ad⟩:=ob h;refine CW.ie Y 0 (fun c e wb=>En e [(0,vS f J.length g),(3,vS W c.1.length k),(4,vI c.2)]∧St w0 [] wb [sl W k c.1]) ?_ (af.po [0]) ?_
 · intro c e aH o hM h;obtain ⟨hE,b⟩:=hM;obtain ⟨e,rfl⟩:=hE.out;refine gc h ?_ ?_ <;> intro _ h
   · refine gb h fun aJ ak h=>?_;obtain ⟨aw,aB,an,rfl,y,aA,ap,⟨ar,ax,au,ay,av,az,rfl,Z,aa,ab⟩,X⟩:=I.idx ak;refine go ?_;refine LW.l (pZ.rh w0 Jq rfl rfl (fun j u hu=>X j u hu)) (b.same _ y.1 y.2) rfl ?_;have ⟨a,ac,h⟩:=ob h;refine LW.cl (J5 ac rfl (b.rB Z) rfl (b.rB aa) rfl (b.rB ab)) ?_;rintro _ aD ⟨n,s,p,t,q,x,rfl,hs⟩;have R:=b.add hs;have ⟨am,A,h⟩:=ob h;obtain ⟨m,d,hae,ao,aq⟩:=R.qi (α:=eg) (i:=3) rfl A;subst hae;refine go ?_;have ah:=R.pk (M:=[sl n s a.pS,sl p t a.data,sl q x a.queue]++[sl (some ⟨m,d,none⟩) k c.1]) [0,1,2,3];have ⟨V,B,h⟩:=ob h;refine LW.GY (M:=[sl n s a.pS,sl p t a.data,sl q x a.queue]) (L:=[sl (some ⟨m,d,none⟩) k c.1]) (z:=am) (z':=a) (o:=0) ah (i:=0) rfl A um rfl (by show _=d+(c.2:Int).toNat * 13+0;omega) rfl rfl rfl rfl (whole (fun w G hG=>⟨n,s,p,t,q,x,rfl,hG⟩)) ?_;intro aE U hf;rw [oi B] at U;refine go ?_;replace h:=oi h;subst h;exact ⟨rfl,⟨⟨rfl,(show (vS (some ⟨m,d,none⟩) c.1.length k:Value)=vS (some ⟨m,d,none⟩) V.length k by rw [show c.1.length=V.length from (pO (oi B))]),rfl,trivial⟩,U.pk [0]⟩⟩
   refine go ?_;cases oi h;exact ⟨trivial,rfl,(b.po [0])⟩
 rintro e aF ⟨hE,ai⟩;obtain ⟨e,rfl⟩:=hE.out;have h:=ad;refine go ?_;cases h;exact Ra ⟨W,k,rfl,ai.pk [0]⟩
theorem Ju {w0 N V W r} (h:AS N V W=some r) {b l d} (n:l=V.length) (q:rb w0 b d V) {c m f} (p:m=W.length) (s:rb w0 c f W) :
    pT Tryz.prog 302 #[vS b l d,vS c m f] w0 (fun v w=>v=.bool r∧St w0 [] w []):=by
 subst n p;unfold AS at h;refine pT.fn Tryz.func302 fun e=>?_;have y:=St.start w0;refine gc h ?_ ?_ <;> intro _ h
 · refine go ?_;cases h;exact fi y
 refine go ?_;obtain ⟨B,H,t⟩:=ob h;refine CW.mono (CW.lx [0,1] [] [] 0 (fun Z=>[(5,vI Z)]) (RT Tryz.prog Tryz.f302.results (fun u=>.bool u) w0 []) y H (hb:=?_)) ?_
 · intro Z e aF o z h;refine gc h ?_ ?_ <;> intro _ h
   · refine go ?_;refine CW.draw (by kernel_rfl) ?_;have a:=z.drew;refine gb h fun aG Y h=>?_;obtain ⟨aD,aE,aa,rfl,g,av,aw,⟨ae,an,af,ao,ah,ap,rfl,I,J,K⟩,C⟩:=q.idx Y;refine go ?_;refine AW.take (i:=3) rfl (by kernel_rfl) rfl rfl (pZ.rh w0 um rfl rfl (fun j u hu=>C j u hu)) (a.same _ g.1 g.2) ?_;refine gb h fun aB R h=>?_;obtain ⟨am,ax,ab,rfl,k,ac,ad,⟨ai,aq,aj,ar,ak,au,rfl,L,M,O⟩,G⟩:=s.idx R;refine go ?_;refine AW.take (i:=7) rfl (by kernel_rfl) rfl rfl (pZ.rh w0 um rfl rfl (fun j u hu=>G j u hu)) (a.same _ k.1 k.2) ?_;have ⟨aC,U,h⟩:=ob h;refine jO 8 ?_;refine LW.cl (KJ U rfl (a.rB I) rfl (a.rB J) rfl (a.rB K) rfl (a.rB L) rfl (a.rB M) rfl (a.rB O)) ?_;rintro _ az ⟨rfl,hs⟩;have A:=a.add hs;refine jN (jW (jW jZ)) ?_;refine gc h ?_ ?_ <;> intro _ h
     · refine go ?_;cases oi h;exact ⟨trivial,rfl,_,rfl,rx ⟨rfl,A.pk []⟩⟩
     refine go ?_;cases oi h;exact ⟨rfl,(A.po [])⟩
   refine go ?_;cases oi h;exact ⟨trivial,rfl,⟨trivial,z.pk []⟩⟩
 intro x e aA hM;rcases B with B | ay
 · obtain ⟨rfl,hM⟩:=hM;obtain ⟨hE,X⟩:=hM;obtain ⟨e,rfl⟩:=hE.out;rw [show e=qv e [] from rfl];have h:=t;refine go ?_;cases h;exact fi X
 obtain ⟨rfl,u,rfl,hM⟩:=hM;cases t;exact And.intro trivial hM
theorem Cw {w0} {F:List Nat} {N g o r} (h:uZ N g o=some r) {a f b} (i:f=g.parts.length) (hS:St w0 F w0 [sl a b g.parts]) :
    pT Tryz.prog 57 #[.agg #[vI g.now,vS a f b],vI o] w0 (fun v w=>v=vI r.1∧St w0 F w [sl a b r.2]):=by
 subst i;unfold uZ at h;refine pT.fn Tryz.func57 fun e=>?_;refine go ?_;refine LW.bo hS fun s u m=>?_;refine gb h fun p n h=>?_;obtain ⟨t,d,c⟩:=tZ n;obtain ⟨l,c⟩:=qz c;rw [oi c] at d l;obtain ⟨q,j⟩:=m.rv [1] [0];refine LW.cl (FU d rfl j.st) ?_;rintro _ x ⟨rfl,hs⟩;have k:=j.back _ _ hs;refine go ?_;replace h:=oi h;subst h;rw [show g.parts.length=p.2.length from l] at k;exact Ra ⟨rfl,k.pk [0]⟩
theorem Cy {w0 N g m r} (h:uX N g m=some r) {a c b} (d:c=g.parts.length) (f:rb w0 a b g.parts) :
    pT Tryz.prog 58 #[.agg #[vI g.now,vS a c b],vI m] w0 (fun v w=>v=vI r∧St w0 [] w []):=by
 subst d;unfold uX at h;refine pT.fn Tryz.func58 fun e=>?_;have k:=St.start w0;refine go ?_;refine LW.bo k fun n o i=>?_;refine gb h fun q l h=>?_;refine LW.c0 (FW l rfl (i.rB f)) i fun p j=>?_;refine gc h ?_ ?_ <;> intro _ h
 · refine go ?_;cases h;exact fi j
 refine go ?_;cases h;exact fi j
theorem Jc {w0 N a ae r} (h:zr N a ae=some r) {c u k} (C:u=a.label.levels.length) (L:rb w0 c k a.label.levels) {d x l} (G:x=a.own.length) (M:rb w0 d l a.own) {f y m} (H:y=a.tree.length) (O:rb w0 f m a.tree) {g z n} (I:z=a.heap.ag.length) (R:rb w0 g n a.heap.ag) {i A o} (J:A=a.heap.gc.j8.length) (U:rb w0 i o a.heap.gc.j8) {j B p} (K:B=a.pN.length) (V:rb w0 j p a.pN) :
    pT Tryz.prog 198 #[.agg #[vS c u k,vS d x l,vS f y m,vS g z n,vI a.heap.gc.phase,vI a.heap.gc.pos,vI a.heap.gc.round,vS i A o,vS j B p,vI a.next,vI a.want,vI a.dz.bh,vI a.dz.pU,vI a.dz.qc,vI a.pV,vI a.lost],vI ae] w0 (fun v w=>v=vI r∧St w0 [] w []):=by
 subst C G H I J K;unfold zr at h;refine pT.fn Tryz.func198 fun e=>?_;have aa:=St.start w0;refine go ?_;refine LW.bo aa fun am an W=>?_;refine gb h fun aq ab h=>?_;refine LW.c0 (Ic ab rfl (W.rB L)) W fun ao q=>?_;refine gc h ?_ ?_ <;> intro _ h
 · refine go ?_;cases h;exact fi q
 refine gb h fun ar ac h=>?_;refine LW.c0 (zF ac rfl (q.rB M)) q fun ap s=>?_;refine go ?_;refine CW.fl [1,2,16] fun e=>?_;refine gc h ?_ ?_ <;> intro _ h
 · refine go ?_;cases h;exact fi s
 refine gb h fun au ad h=>?_;refine LW.c0 (JL ad rfl (s.rB O)) s fun af b=>?_;refine gc h ?_ ?_ <;> intro _ h
 · refine go ?_;cases h;exact fi b
 refine gb h fun aj Y h=>?_;refine LW.c0 (I1 Y rfl (b.rB R) rfl (b.rB U)) b fun ah t=>?_;refine go ?_;refine CW.fl [1,2,28] fun e=>?_;refine gc h ?_ ?_ <;> intro _ h
 · refine go ?_;cases h;exact fi t
 refine gb h fun ak Z h=>?_;refine LW.c0 (Jt Z rfl (t.rB V)) t fun ai X=>?_;refine gc h ?_ ?_ <;> intro _ h
 · refine go ?_;cases h;exact fi X
 refine go ?_;cases h;exact fi X
theorem Jn {w0 N a r} (h:zk N a=some r) {i m k} (o:m=a.ag.length) (q:rb w0 i k a.ag) {j n l} (p:n=a.gc.j8.length) (s:rb w0 j l a.gc.j8) :
    pT Tryz.prog 269 #[.agg #[vS i m k,vI a.gc.phase,vI a.gc.pos,vI a.gc.round,vS j n l]] w0 (fun v w=>∃ c f, ∃ d g,v=.agg #[vS c r.ag.length f,vI r.gc.phase,vI r.gc.pos,vI r.gc.round,vS d r.gc.j8.length g]∧St w0 [] w [sl c f r.ag,sl d g r.gc.j8]):=by
 subst o p;unfold zk at h;refine pT.fn Tryz.func269 fun e=>?_;have B:=St.start w0;refine go ?_;refine LW.bo B fun Y ab C=>?_;refine LW.al C fun Z ac G=>?_;refine go ?_;refine LW.al G fun aa ad t=>?_;refine gb h fun ae K h=>?_;refine LW.cl (I9 K rfl (t.rB q)) ?_;rintro _ O ⟨L,M,rfl,hs⟩;have H:=t.add hs;refine go ?_;refine LW.st H 1 fun R u=>?_;refine gb h fun X y h=>?_;refine LW.cl (Ly y rfl (u.rB s)) ?_;rintro _ U ⟨z,A,rfl,hs⟩;have I:=u.add hs;refine go ?_;refine LW.st I 2 fun V J=>?_;refine go ?_;refine LW.st J 3 fun W x=>?_;refine go ?_;cases h;exact And.intro trivial ⟨_,rG.one (pP.b x 3 rfl Bm rfl rfl),L,M,z,A,rfl,x.pk [1,0]⟩
theorem Je {w0 N a b r} (h:zm N a b=some r) {d o j} (t:o=a.ag.length) (z:rb w0 d j a.ag) {f p k} (u:p=a.gc.j8.length) (A:rb w0 f k a.gc.j8) {g q l} (x:q=b.ag.length) (B:rb w0 g l b.ag) {i s m} (y:s=b.gc.j8.length) (C:rb w0 i m b.gc.j8) :
    pT Tryz.prog 275 #[.agg #[vS d o j,vI a.gc.phase,vI a.gc.pos,vI a.gc.round,vS f p k],.agg #[vS g q l,vI b.gc.phase,vI b.gc.pos,vI b.gc.round,vS i s m]] w0 (fun v w=>v=.bool r∧St w0 [] w []):=by
 subst t u x y;unfold zm at h;refine pT.fn Tryz.func275 fun e=>?_;have H:=St.start w0;refine go ?_;refine LW.bo H fun L O I=>?_;refine LW.bo I fun M R n=>?_;refine gb h fun W J h=>?_;refine LW.c0 (Ju J rfl (n.rB z) rfl (n.rB B)) n fun U c=>?_;refine gc h ?_ ?_ <;> intro _ h
 · refine go ?_;cases h;exact fi c
 refine gb h fun X K h=>?_;refine LW.c0 (Lm K rfl (c.rB A) rfl (c.rB C)) c fun V G=>?_;refine go ?_;refine CW.fl [16] fun e=>?_;refine gc h ?_ ?_ <;> intro _ h
 · refine go ?_;cases h;exact fi G
 refine go ?_;cases h;exact fi G
theorem HW {w0 N I L r} (h:z3 N I L=some r) {b f c} (g:f=I.length) (i:rb w0 b c I) :
    pT Tryz.prog 128 #[vS b f c,vI L] w0 (fun v w=>v=vI r∧St w0 [] w []):=by
 subst g;unfold z3 at h;refine pT.fn Tryz.func128 fun e=>?_;have m:=St.start w0;refine gc h ?_ ?_ <;> intro _ h
 · refine go ?_;cases h;exact fi m
 refine go ?_;obtain ⟨p,s,k⟩:=ob h;refine CW.mono (CW.lx [0] [] [1] 0 (fun H=>[(1,vI H.1),(5,vI H.2)]) (RT Tryz.prog Tryz.f128.results (fun u=>vI u) w0 []) m s (hb:=?_)) ?_
 · intro H e ao o a h;refine go ?_;refine CW.fl [0,1,5,15] fun e=>?_;refine gc h ?_ ?_ <;> intro _ h
   · refine gb h fun ap K h=>?_;obtain ⟨am,an,M,rfl,d,ae,af,⟨O,Y,R,Z,U,aa,V,ab,W,ac,X,ad,rfl,t,y,z,A,B,C⟩,q⟩:=i.idx K;refine go ?_;refine LW.l (pZ.rh w0 IU rfl rfl (fun j u hu=>q j u hu)) (a.same _ d.1 d.2) rfl ?_;refine gb h fun ak G h=>?_;refine LW.c0 (Jc G rfl (a.rB t) rfl (a.rB y) rfl (a.rB z) rfl (a.rB A) rfl (a.rB B) rfl (a.rB C)) a fun ai n=>?_;refine gc h ?_ ?_ <;> intro _ h
     · refine go ?_;cases oi h;exact ⟨trivial,rfl,_,rfl,rx ⟨rfl,n.pk []⟩⟩
     refine go ?_;cases oi h;exact ⟨rfl,(n.po [])⟩
   refine go ?_;cases oi h;exact ⟨trivial,rfl,(a.po [])⟩
 intro x e aj hM;rcases p with p | ah
 · obtain ⟨rfl,hM⟩:=hM;obtain ⟨hE,J⟩:=hM;obtain ⟨e,rfl⟩:=hE.out;have h:=k;refine go ?_;cases h;exact fi J
 obtain ⟨rfl,u,rfl,hM⟩:=hM;cases k;exact And.intro trivial hM
theorem Jk {w0 N a r} (h:xN N a=some r) {s L A} (W:L=a.label.levels.length) (ac:rb w0 s A a.label.levels) {t M B} (X:M=a.own.length) (ad:rb w0 t B a.own) {u O C} (Y:O=a.tree.length) (ae:rb w0 u C a.tree) {x R G} (Z:R=a.heap.ag.length) (af:rb w0 x G a.heap.ag) {y U H} (aa:U=a.heap.gc.j8.length) (ah:rb w0 y H a.heap.gc.j8) {z V I} (ab:V=a.pN.length) (ai:rb w0 z I a.pN) :
    pT Tryz.prog 199 #[.agg #[vS s L A,vS t M B,vS u O C,vS x R G,vI a.heap.gc.phase,vI a.heap.gc.pos,vI a.heap.gc.round,vS y U H,vS z V I,vI a.next,vI a.want,vI a.dz.bh,vI a.dz.pU,vI a.dz.qc,vI a.pV,vI a.lost]] w0 (fun v w=>∃ d l, ∃ f m, ∃ g n, ∃ i o, ∃ j p, ∃ k q,v=.agg #[vS d r.label.levels.length l,vS f r.own.length m,vS g r.tree.length n,vS i r.heap.ag.length o,vI r.heap.gc.phase,vI r.heap.gc.pos,vI r.heap.gc.round,vS j r.heap.gc.j8.length p,vS k r.pN.length q,vI r.next,vI r.want,vI r.dz.bh,vI r.dz.pU,vI r.dz.qc,vI r.pV,vI r.lost]∧St w0 [] w [sl d l r.label.levels,sl f m r.own,sl g n r.tree,sl i o r.heap.ag,sl j p r.heap.gc.j8,sl k q r.pN]):=by
 subst W X Y Z aa ab;unfold xN at h;refine pT.fn Tryz.func199 fun e=>?_;have aN:=St.start w0;refine go ?_;refine LW.bo aN fun bk bn aO=>?_;refine LW.al aO fun bl bp aP=>?_;refine go ?_;refine LW.al aP fun bm bq aj=>?_;refine gb h fun br aT h=>?_;refine LW.cl (H4 aT rfl (aj.rB ac)) ?_;rintro _ aW ⟨aU,aV,rfl,hs⟩;have aQ:=aj.add hs;refine go ?_;refine LW.st aQ 1 fun aX ak=>?_;refine gb h fun be ay h=>?_;refine LW.cl (zt ay rfl (ak.rB ad)) ?_;rintro _ aY ⟨aD,aI,rfl,hs⟩;have aR:=ak.add hs;refine go ?_;refine LW.st aR 2 fun aZ am=>?_;refine gb h fun bf az h=>?_;refine LW.cl (JG az rfl (am.rB ae)) ?_;rintro _ a0 ⟨aE,aJ,rfl,hs⟩;have aS:=am.add hs;refine go ?_;refine LW.st aS 3 fun a1 c=>?_;refine gb h fun bg aA h=>?_;refine LW.cl (Jn aA rfl (c.rB af) rfl (c.rB ah)) ?_;rintro _ a2 ⟨aF,aK,aG,aL,rfl,hs⟩;have an:=c.add hs;refine go ?_;refine LW.st an 5 fun a3 J=>?_;refine go ?_;have ⟨bi,aB,h⟩:=ob h;refine LW.cl (Jg aB rfl (J.rB ai)) ?_;rintro _ a4 ⟨aH,aM,rfl,hs⟩;have ao:=J.add hs;refine go ?_;refine LW.st ao 6 fun a5 ap=>?_;refine go ?_;refine LW.st ap 6 fun a6 aq=>?_;refine go ?_;refine LW.st aq 6 fun a7 ar=>?_;refine gb h fun bj aC h=>?_;refine LW.c0 (E2 aC) ar fun a9 au=>?_;refine go ?_;refine LW.st au 6 fun ba av=>?_;refine go ?_;refine LW.st av 6 fun bb aw=>?_;refine go ?_;refine LW.st aw 6 fun bc ax=>?_;refine go ?_;refine LW.st ax 7 fun bd K=>?_;refine go ?_;cases h;exact And.intro trivial ⟨_,rG.one (pP.b K 7 rfl rf rfl rfl),aU,aV,aD,aI,aE,aJ,aF,aK,aG,aL,aH,aM,rfl,K.pk [5,4,3,1,2,0]⟩
theorem Jh {w0 N a b r} (h:xO N a b=some r) {k U z} (ah:U=a.label.levels.length) (aw:rb w0 k z a.label.levels) {l V A} (ai:V=a.own.length) (ax:rb w0 l A a.own) {m W B} (aj:W=a.tree.length) (ay:rb w0 m B a.tree) {n X C} (ak:X=a.heap.ag.length) (az:rb w0 n C a.heap.ag) {o Y G} (am:Y=a.heap.gc.j8.length) (aA:rb w0 o G a.heap.gc.j8) {p Z H} (an:Z=a.pN.length) (aB:rb w0 p H a.pN) {q aa I} (ao:aa=b.label.levels.length) (aC:rb w0 q I b.label.levels) {s ab J} (ap:ab=b.own.length) (aD:rb w0 s J b.own) {t ac K} (aq:ac=b.tree.length) (aE:rb w0 t K b.tree) {u ad L} (ar:ad=b.heap.ag.length) (aF:rb w0 u L b.heap.ag) {x ae M} (au:ae=b.heap.gc.j8.length) (aG:rb w0 x M b.heap.gc.j8) {y af O} (av:af=b.pN.length) (aH:rb w0 y O b.pN) :
    pT Tryz.prog 200 #[.agg #[vS k U z,vS l V A,vS m W B,vS n X C,vI a.heap.gc.phase,vI a.heap.gc.pos,vI a.heap.gc.round,vS o Y G,vS p Z H,vI a.next,vI a.want,vI a.dz.bh,vI a.dz.pU,vI a.dz.qc,vI a.pV,vI a.lost],.agg #[vS q aa I,vS s ab J,vS t ac K,vS u ad L,vI b.heap.gc.phase,vI b.heap.gc.pos,vI b.heap.gc.round,vS x ae M,vS y af O,vI b.next,vI b.want,vI b.dz.bh,vI b.dz.pU,vI b.dz.qc,vI b.pV,vI b.lost]] w0 (fun v w=>v=.bool r∧St w0 [] w []):=by
 subst ah ai aj ak am an ao ap aq ar au av;unfold xO at h;refine pT.fn Tryz.func200 fun e=>?_;have aM:=St.start w0;refine go ?_;refine LW.bo aM fun aY a0 aN=>?_;refine LW.bo aN fun aZ a1 R=>?_;refine gb h fun a4 aO h=>?_;refine LW.c0 (HE aO rfl (R.rB aw) rfl (R.rB aC)) R fun a2 d=>?_;refine gc h ?_ ?_ <;> intro _ h
 · refine go ?_;cases h;exact fi d
 refine gb h fun a5 aP h=>?_;refine LW.c0 (zB aP rfl (d.rB ax) rfl (d.rB aD)) d fun a3 f=>?_;refine go ?_;refine CW.fl [2,3,16] fun e=>?_;refine gc h ?_ ?_ <;> intro _ h
 · refine go ?_;cases h;exact fi f
 refine gb h fun aU aI h=>?_;refine LW.c0 (IX aI rfl (f.rB ay) rfl (f.rB aE)) f fun aQ c=>?_;refine gc h ?_ ?_ <;> intro _ h
 · refine go ?_;cases h;exact fi c
 refine gb h fun aV aJ h=>?_;refine LW.c0 (Je aJ rfl (c.rB az) rfl (c.rB aA) rfl (c.rB aF) rfl (c.rB aG)) c fun aR g=>?_;refine gc h ?_ ?_ <;> intro _ h
 · refine go ?_;cases h;exact fi g
 refine gb h fun aW aK h=>?_;refine LW.c0 (Jo aK rfl (g.rB aB) rfl (g.rB aH)) g fun aS i=>?_;refine go ?_;refine CW.fl [2,3,34] fun e=>?_;refine gc h ?_ ?_ <;> intro _ h
 · refine go ?_;cases h;exact fi i
 refine gc h ?_ ?_ <;> intro _ h
 · refine go ?_;cases h;exact fi i
 refine gc h ?_ ?_ <;> intro _ h
 · refine go ?_;cases h;exact fi i
 refine gb h fun aX aL h=>?_;refine LW.c0 (Fe aL) i fun aT j=>?_;refine go ?_;refine CW.fl [2,3,50] fun e=>?_;refine gc h ?_ ?_ <;> intro _ h
 · refine go ?_;cases h;exact fi j
 refine gc h ?_ ?_ <;> intro _ h
 · refine go ?_;cases h;exact fi j
 refine gc h ?_ ?_ <;> intro _ h
 · refine go ?_;cases h;exact fi j
 refine go ?_;cases h;exact fi j
theorem H2 {w0 N g m r} (h:z5 N g m=some r) {a c b} (d:c=g.parts.length) (f:rb w0 a b g.parts) :
    pT Tryz.prog 52 #[.agg #[vI g.now,vS a c b],vI m] w0 (fun v w=>v=vI r∧St w0 [] w []):=by
 subst d;unfold z5 at h;refine pT.fn Tryz.func52 fun e=>?_;have k:=St.start w0;refine go ?_;refine LW.bo k fun n o i=>?_;refine gb h fun q l h=>?_;refine LW.c0 (HW l rfl (i.rB f)) i fun p j=>?_;refine gc h ?_ ?_ <;> intro _ h
 · refine go ?_;cases h;exact fi j
 refine go ?_;cases h;exact fi j
theorem HJ {w0 N W r} (h:z8 N W=some r) {f R g} (U:R=W.length) (V:rb w0 f g W) :
    pT Tryz.prog 129 #[vS f R g] w0 (fun v w=>∃ X Y,v=vS X r.length Y∧St w0 [] w [sl X Y r]):=by
 subst U;unfold z8 at h;refine pT.fn Tryz.func129 fun e=>?_;have ap:=St.start w0;refine gb h fun aX av h=>?_;refine LW.mk GV rfl rfl av ap rfl ?_;intro ac k aV aq hf;refine go ?_;obtain ⟨aR,ae,ao⟩:=ob h;refine CW.ie ae 0 (fun c e wb=>En e [(0,vS f W.length g),(3,vS ac c.1.length k),(4,vI c.2)]∧St w0 [] wb [sl ac k c.1]) ?_ (aq.po [0]) ?_
 · intro c e aW o hM h;obtain ⟨hE,b⟩:=hM;obtain ⟨e,rfl⟩:=hE.out;refine gc h ?_ ?_ <;> intro _ h
   · refine gb h fun aY aw h=>?_;obtain ⟨aI,aQ,ay,rfl,J,aP,aA,⟨aC,aJ,aD,aK,aE,aL,aF,aM,aG,aN,aH,aO,rfl,af,ah,ai,aj,ak,am⟩,ad⟩:=V.idx aw;refine go ?_;refine LW.l (pZ.rh w0 IU rfl rfl (fun j u hu=>ad j u hu)) (b.same _ J.1 J.2) rfl ?_;have ⟨a,an,h⟩:=ob h;refine LW.cl (Jk an rfl (b.rB af) rfl (b.rB ah) rfl (b.rB ai) rfl (b.rB aj) rfl (b.rB ak) rfl (b.rB am)) ?_;rintro _ aS ⟨n,y,p,A,q,B,s,C,t,H,x,I,rfl,hs⟩;have Z:=b.add hs;have ⟨ax,K,h⟩:=ob h;obtain ⟨m,d,hae,az,aB⟩:=Z.qi (α:=cd) (i:=6) rfl K;subst hae;refine go ?_;have ar:=Z.pk (M:=[sl n y a.label.levels,sl p A a.own,sl q B a.tree,sl s C a.heap.ag,sl t H a.heap.gc.j8,sl x I a.pN]++[sl (some ⟨m,d,none⟩) k c.1]) [0,1,2,3,4,5,6];have ⟨ab,O,h⟩:=ob h;refine LW.GY (M:=[sl n y a.label.levels,sl p A a.own,sl q B a.tree,sl s C a.heap.ag,sl t H a.heap.gc.j8,sl x I a.pN]) (L:=[sl (some ⟨m,d,none⟩) k c.1]) (z:=ax) (z':=a) (o:=0) ar (i:=0) rfl K rf rfl (by show _=d+(c.2:Int).toNat * 16+0;omega) rfl rfl rfl rfl (whole (fun w G hG=>⟨n,y,p,A,q,B,s,C,t,H,x,I,rfl,hG⟩)) ?_;intro aT aa hf;rw [oi O] at aa;refine go ?_;replace h:=oi h;subst h;exact ⟨rfl,⟨⟨rfl,(show (vS (some ⟨m,d,none⟩) c.1.length k:Value)=vS (some ⟨m,d,none⟩) ab.length k by rw [show c.1.length=ab.length from (pO (oi O))]),rfl,trivial⟩,aa.pk [0]⟩⟩
   refine go ?_;cases oi h;exact ⟨trivial,rfl,(b.po [0])⟩
 rintro e aU ⟨hE,au⟩;obtain ⟨e,rfl⟩:=hE.out;have h:=ao;refine go ?_;cases h;exact Ra ⟨ac,k,rfl,au.pk [0]⟩
theorem Ia {w0 N ab ac r} (h:Ab N ab ac=some r) {b l d} (n:l=ab.length) (q:rb w0 b d ab) {c m f} (p:m=ac.length) (s:rb w0 c f ac) :
    pT Tryz.prog 130 #[vS b l d,vS c m f] w0 (fun v w=>v=.bool r∧St w0 [] w []):=by
 subst n p;unfold Ab at h;refine pT.fn Tryz.func130 fun e=>?_;have y:=St.start w0;refine gc h ?_ ?_ <;> intro _ h
 · refine go ?_;cases h;exact fi y
 refine go ?_;obtain ⟨B,H,t⟩:=ob h;refine CW.mono (CW.lx [0,1] [] [] 0 (fun af=>[(5,vI af)]) (RT Tryz.prog Tryz.f130.results (fun u=>.bool u) w0 []) y H (hb:=?_)) ?_
 · intro af e aX o z h;refine gc h ?_ ?_ <;> intro _ h
   · refine go ?_;refine CW.draw (by kernel_rfl) ?_;have a:=z.drew;refine gb h fun aY ae h=>?_;obtain ⟨aV,aW,ah,rfl,g,aN,aO,⟨am,aB,an,aC,ao,aD,ap,aE,aq,aF,ar,aG,rfl,I,J,K,L,M,O⟩,C⟩:=q.idx ae;refine go ?_;refine AW.take (i:=3) rfl (by kernel_rfl) rfl rfl (pZ.rh w0 rf rfl rfl (fun j u hu=>C j u hu)) (a.same _ g.1 g.2) ?_;refine gb h fun aT Z h=>?_;obtain ⟨aA,aP,ai,rfl,k,aj,ak,⟨au,aH,av,aI,aw,aJ,ax,aK,ay,aL,az,aM,rfl,R,U,V,W,X,Y⟩,G⟩:=s.idx Z;refine go ?_;refine AW.take (i:=7) rfl (by kernel_rfl) rfl rfl (pZ.rh w0 rf rfl rfl (fun j u hu=>G j u hu)) (a.same _ k.1 k.2) ?_;have ⟨aU,aa,h⟩:=ob h;refine jO 8 ?_;refine LW.cl (Jh aa rfl (a.rB I) rfl (a.rB J) rfl (a.rB K) rfl (a.rB L) rfl (a.rB M) rfl (a.rB O) rfl (a.rB R) rfl (a.rB U) rfl (a.rB V) rfl (a.rB W) rfl (a.rB X) rfl (a.rB Y)) ?_;rintro _ aR ⟨rfl,hs⟩;have A:=a.add hs;refine jN (jW (jW jZ)) ?_;refine gc h ?_ ?_ <;> intro _ h
     · refine go ?_;cases oi h;exact ⟨trivial,rfl,_,rfl,rx ⟨rfl,A.pk []⟩⟩
     refine go ?_;cases oi h;exact ⟨rfl,(A.po [])⟩
   refine go ?_;cases oi h;exact ⟨trivial,rfl,⟨trivial,z.pk []⟩⟩
 intro x e aS hM;rcases B with B | aQ
 · obtain ⟨rfl,hM⟩:=hM;obtain ⟨hE,ad⟩:=hM;obtain ⟨e,rfl⟩:=hE.out;rw [show e=qv e [] from rfl];have h:=t;refine go ?_;cases h;exact fi ad
 obtain ⟨rfl,u,rfl,hM⟩:=hM;cases t;exact And.intro trivial hM
theorem sE {w0 N k r} (h:uA N k=some r) {d g f} (i:g=k.parts.length) (j:rb w0 d f k.parts) :
    pT Tryz.prog 53 #[.agg #[vI k.now,vS d g f]] w0 (fun v w=>∃ a c,v=.agg #[vI r.now,vS a r.parts.length c]∧St w0 [] w [sl a c r.parts]):=by
 subst i;unfold uA at h;refine pT.fn Tryz.func53 fun e=>?_;have o:=St.start w0;refine go ?_;refine LW.bo o fun C I p=>?_;refine LW.al p fun G J q=>?_;refine go ?_;refine LW.al q fun H K s=>?_;refine go ?_;refine LW.st s 0 fun L l=>?_;refine gb h fun M x h=>?_;refine LW.cl (HJ x rfl (l.rB j)) ?_;rintro _ z ⟨y,n,rfl,hs⟩;have t:=l.add hs;refine go ?_;refine LW.st t 1 fun A u=>?_;refine go ?_;refine LW.st u 2 fun B m=>?_;refine go ?_;cases h;exact And.intro trivial ⟨_,rG.one (pP.b m 2 rfl te rfl rfl),y,n,rfl,m.pk [0]⟩
theorem z0 {w0 N n o r} (h:uB N n o=some r) {b g d} (j:g=n.parts.length) (l:rb w0 b d n.parts) {c i f} (k:i=o.parts.length) (m:rb w0 c f o.parts) :
    pT Tryz.prog 55 #[.agg #[vI n.now,vS b g d],.agg #[vI o.now,vS c i f]] w0 (fun v w=>v=.bool r∧St w0 [] w []):=by
 subst j k;unfold uB at h;refine pT.fn Tryz.func55 fun e=>?_;have q:=St.start w0;refine go ?_;refine LW.bo q fun u y s=>?_;refine LW.bo s fun x z a=>?_;refine gc h ?_ ?_ <;> intro _ h
 · refine go ?_;cases h;exact fi a
 refine gb h fun B t h=>?_;refine LW.c0 (Ia t rfl (a.rB l) rfl (a.rB m)) a fun A p=>?_;refine go ?_;refine CW.fl [15] fun e=>?_;refine gc h ?_ ?_ <;> intro _ h
 · refine go ?_;cases h;exact fi p
 refine go ?_;cases h;exact fi p
end Go.Kx
