import Derived.Test.YtfmfgnhbgcjajaaGreatLKeep
namespace Go.Kx
open Go
set_option linter.unusedVariables false
set_option linter.unusedSimpArgs false
set_option maxRecDepth 10000
theorem sC{l:List cd}(h:Ar l){now i:Int}(h0:0<=i):nth (reach l now) i=true <-> Reaches l now i:=by
  rw[yO h0,(vG h now).2 i.toNat,Int.toNat_of_nonneg h0]
structure Sf (h:df) (now:Int):Prop where
  hk:Hk h
  lo:h.gc.Rj=1->∀i,0<=i->i<h.gc.Rs->(nth h.ag i).mark=false
  hi:h.gc.Rj=1->∀i,0<i->h.gc.Rs<=i->Reaches h.ag now i->(nth h.ag i).mark=true
  bl:h.gc.Rj=0->∀i,Reaches h.ag now i->i∉h.gc.da->(i=0\/(nth h.ag i).mark=true)->∀k,k∈fx h.ag i->0<k->Reaches h.ag now k->(nth h.ag k).mark=true
theorem rr{h:df}(q:Hk h):h.gc.Rj=0\/(h.gc.Rj=1/\0<=h.gc.Rs/\h.gc.Rs<=9/\h.gc.da=[]):=by
  have hph:=q.ph;unfold lg at hph;simp only[Bool.or_eq_true,RG,beq_iff_eq,dI]at hph
  rcases hph with e|e
  · exact .inl e.1
  · exact .inr ⟨e.1,e.2.1.1,e.2.1.2,List.length_eq_zero_iff.1 (by omega)⟩
theorem yQ{h:df}{r:List Bool}{i:Int}(h0:0<=i){o:cd}:(!Jk h r i.toNat o)=true <-> (i<h.gc.Rs->o.mark=false)/\(h.gc.Rs<=i->0<i->nth r i=true->o.mark=true):=by
  unfold Jk;rw[Int.toNat_of_nonneg h0];cases o.mark<;>cases nth r i<;>simp<;>omega
theorem G5{h:df}{r:List Bool}{i:Int}(h0:0<=i){o:cd}:Pb h r i.toNat o=true <-> (nth r i=true->i∉h.gc.da->(i=0\/o.mark=true)->∀k,k∈fx h.ag i->0<k->nth r k=true->(nth h.ag k).mark=true):=by
  unfold Pb black MY;rw[Int.toNat_of_nonneg h0];simp only[Bool.or_eq_true,Bool.not_eq_true',Bool.and_eq_false_iff,Bool.or_eq_false_iff,List.all_eq_true,decide_eq_false_iff_not,Bool.not_eq_false',beq_eq_false_iff_ne,ne_eq];constructor
  · rintro q r1 r2 r3 k k1 k2 k3
    rcases q with(q|q|q)|q
    · rw[r1]at q;cases q
    · rcases r3 with r3|r3
      · exact absurd r3 q.2
      · rw[r3]at q;cases q.1
    · exact absurd (by simpa using q) r2
    · rcases q k k1 with a|a|a
      · exact absurd k2 a
      · rw[k3]at a;cases a
      · exact a
  · intro q
    by_cases r1:nth r i=true
    · by_cases r2:i∈h.gc.da
      · exact .inl (.inr (.inr (by simpa using r2)))
      · by_cases r3:i=0\/o.mark=true
        · refine .inr fun k k1=>?_
          by_cases k2:0<k
          · cases k3:nth r k
            · exact .inr (.inl rfl)
            · exact .inr (.inr (q r1 r2 r3 k k1 k2 k3))
          · exact .inl k2
        · refine .inl (.inr (.inl ⟨?_,fun e=>r3 (.inl e)⟩));cases hm:o.mark
          · rfl
          · exact absurd (.inr hm) r3
    · exact .inl (.inl (by simpa using r1))
theorem H8{h:df}{now:Int}:Et h now=true <-> Sf h now:=by
  unfold Et;rw[RG,gG]
  have all_:∀{p:Nat->cd->Bool},Hk h->(allI p 0 h.ag=true <-> ∀i:Int,0<=i->i<=9->p i.toNat (nth h.ag i)=true):=fun{p} q=>by
    have h10:=q.ar.len;rw[jL];constructor
    · intro hp i h0 h9;have:=hp i.toNat (nth h.ag i) (fO h0 (by omega))
      rwa[Nat.zero_add]at this
    · intro hp k y hy;have hl:=eA hy;have:=hp (k:Int) (by omega) (by omega);rw[nW hy]at this
      rwa[Nat.zero_add]
  constructor
  · rintro⟨hk,q⟩
    rcases rr hk with c|⟨c,p0,p9,g⟩
    · rw[c]at q;rw[show((0:Int)==1)=false from rfl,RC,all_ hk]at q;refine⟨hk,fun e=>absurd (c.symm.trans e) (by decide),fun e=>absurd (c.symm.trans e) (by decide),fun _ i r1 r2 r3 k k1 k2 k3=>?_⟩;obtain⟨i0,i9⟩:=r1.kT hk.ar;exact(G5 i0).1 (q i i0 i9) ((sC hk.ar i0).2 r1) r2 r3 k k1 k2 ((sC hk.ar (by omega)).2 k3)
    · rw[c]at q;rw[show((1:Int)==1)=true from rfl,RD,all_ hk]at q;refine⟨hk,fun _ i i0 i1=>((yQ i0).1 (q i i0 (by omega))).1 i1,fun _ i i0 i1 r=>?_,fun e=>absurd (c.symm.trans e) (by decide)⟩;obtain⟨_,i9⟩:=r.kT hk.ar;exact((yQ (by omega)).1 (q i (by omega) i9)).2 i1 i0 ((sC hk.ar (by omega)).2 r)
  · intro s;refine⟨s.hk,?_⟩
    rcases rr s.hk with c|⟨c,p0,p9,g⟩
    · rw[show(h.gc.Rj==1)=false by rw[c];rfl,RC,all_ s.hk];intro i i0 i9;exact(G5 i0).2 fun r1 r2 r3 k k1 k2 k3=>s.bl c i ((sC s.hk.ar i0).1 r1) r2 r3 k k1 k2 ((sC s.hk.ar (by omega)).1 k3)
    · rw[show(h.gc.Rj==1)=true by rw[c];rfl,RD,all_ s.hk];intro i i0 i9;exact(yQ i0).2 ⟨fun i1=>s.lo c i i0 i1,fun i1 i2 r=>s.hi c i i2 i1 ((sC s.hk.ar i0).1 r)⟩
theorem vE{o:cd}{a b:Int}(h:a<=b)(q:ey o b=false):ey o a=false:=by
  unfold ey at q⊢;cases hk:o.so==0
  · rw[hk]at q;simp only[RC,decide_eq_false_iff_not]at q⊢;omega
  · rw[hk]at q;cases q
theorem Reaches.mono{l:List cd}{a b:Int}(h:a<=b){k:Int}(r:Reaches l b k):Reaches l a k:=by
  induction r with
  | root=>exact .root
  | step _ q2 q3 ih=>exact .step ih q2 (vE h q3)
theorem Sf.mono{h:df}{a b:Int}(q:a<=b)(s:Sf h a):Sf h b :=
  ⟨s.hk,s.lo,fun c i i0 i1 r=>s.hi c i i0 i1 (r.mono q),fun c i r1 r2 r3 k k1 k2 k3=>s.bl c i (r1.mono q) r2 r3 k k1 k2 (k3.mono q)⟩
structure yb (h t:df):Prop where
  sk:h.ag.map gf=t.ag.map gf
  ph:t.gc.Rj=h.gc.Rj
  po:t.gc.Rs=h.gc.Rs
  gr:∀y,y∈h.gc.da->y∈t.gc.da
  up:∀i,0<=i->i<=9->(nth h.ag i).mark=true->(nth t.ag i).mark=true
  dn:∀i,0<=i->i<=9->(nth t.ag i).mark=true->(nth h.ag i).mark=true\/i∈t.gc.da
theorem yb.rfl(h:df):yb h h:=⟨Eq.refl _,Eq.refl _,Eq.refl _,fun _ q=>q,fun _ _ _ q=>q,fun _ _ _ q=>.inl q⟩
theorem yb.trans{h t u:df}(a:yb h t)(b:yb t u):yb h u :=
  ⟨a.sk.trans b.sk,b.ph.trans a.ph,b.po.trans a.po,fun y q=>b.gr y (a.gr y q),fun i i0 i9 q=>b.up i i0 i9 (a.up i i0 i9 q),fun i i0 i9 q=>by
    rcases b.dn i i0 i9 q with c|c
    · rcases a.dn i i0 i9 c with d|d
      · exact .inl d
      · exact .inr (b.gr i d)
    · exact .inr c⟩
theorem nD{l:List cd}{i:Int}(h0:0<=i)(h1:i<(l.length:Int)){z:cd}(e:gf z=gf (nth l i)):l.map gf=(l.set i.toNat z).map gf:=by
  rw[List.map_set,e,kJ (xF i h0 h1)]
theorem wK{h:df}(h10:h.ag.length=10){k:Int}(k0:0<=k)(k9:k<=9):yb h (fP h k)/\(h.gc.Rj=0->(nth h.ag k).so ≠ 0->(nth (fP h k).ag k).mark=true):=by
  have hn:∀j,0<=j->nth (h.ag.set k.toNat (marked (nth h.ag k) true)) j=if k=j then marked (nth h.ag k) true else nth h.ag j:=fun j hj=>gJ k0 (by omega) hj
  unfold fP;split
  · rename_i c;refine⟨⟨nD k0 (by omega) rfl,rfl,rfl,fun y hy=>?_,fun i i0 i9 q=>?_,fun i i0 i9 q=>?_⟩,fun _ _=>?_⟩
    · dsimp only;split
      · exact hy
      · exact List.mem_append_left _ hy
    · dsimp only;rw[hn i i0];split
      · rfl
      · exact q
    · dsimp only at q⊢;rw[hn i i0]at q;split at q
      · rename_i e;subst e;refine .inr ?_;split
        · rename_i g;simpa using g
        · simp
      · exact .inl q
    · dsimp only;rw[hn k k0,if_pos rfl];rfl
  · rename_i c;refine⟨yb.rfl h,fun e1 e2=>?_⟩;cases hm:(nth h.ag k).mark
    · exact absurd (by rw[e1,hm];simp[e2]) c
    · rfl
theorem tD{l:List cd}{now:Int}:∀(e:List Int) (h:df),h.ag.length=10->(∀y,y∈e->0<=y/\y<=9)->l.map gf=h.ag.map gf ->
    yb h (e.foldl (fM l now) h)/\(h.gc.Rj=0->∀y,y∈e->ey (nth l y) now=false->(nth (e.foldl (fM l now) h).ag y).mark=true) /\
    ∀i,0<=i->i<=9->(nth (e.foldl (fM l now) h).ag i).mark=true->(nth h.ag i).mark=true\/(i∈e/\ey (nth l i) now=false)
  | [],h,_,_,_=>⟨yb.rfl h,fun _ y hy=>by simp at hy,fun i _ _ q=>.inl q⟩
  | k::e,h,h10,he,hs=>by
    obtain⟨k0,k9⟩:=he k (by simp);obtain⟨a1,a2⟩:=wK h10 k0 k9
    have b1:yb h (fM l now h k):=by
      unfold fM;split
      · exact yb.rfl h
      · exact a1
    have hl:(fM l now h k).ag.length=10:=by
      have:=congrArg List.length b1.sk;simp only[List.length_map]at this;omega
    have ek:(nth l k).so=(nth h.ag k).so:=congrArg Sk.so (jt hs k0 (by have:=congrArg List.length hs;simp only[List.length_map]at this;omega));obtain⟨c1,c2,c3⟩:=tD e _ hl (fun y hy=>he y (by simp[hy])) (hs.trans b1.sk);rw[List.foldl_cons];refine⟨b1.trans c1,fun e1 y hy hx=>?_,fun i i0 i9 q=>?_⟩
    · rcases List.mem_cons.1 hy with rfl|hy
      · refine c1.up y k0 k9 ?_;unfold fM;rw[hx];exact a2 e1 (by rw[<- ek];exact yu hx)
      · exact c2 (b1.ph.trans e1) y hy hx
    · rcases c3 i i0 i9 q with d|d
      · unfold fM at d;split at d
        · exact .inl d
        · rename_i hx;unfold fP at d;split at d
          · dsimp only at d;rw[gJ k0 (by omega) i0]at d;split at d
            · rename_i e';subst e';exact .inr ⟨by simp,by simpa using hx⟩
            · exact .inl d
          · exact .inl d
      · exact .inr ⟨by simp[d.1],d.2⟩
def mh(l:List cd)(i:Int):List cd:=(l.set i.toNat (blank (nth l i).Rt)).map (kR i)
theorem nI{l:List cd}(h10:l.length=10){i:Int}(h0:0<=i)(h9:i<=9){j:Int}(j0:0<=j)(j9:j<=9):nth (mh l i) j=if i=j then blank (nth l i).Rt else kR i (nth l j):=by
  unfold mh;rw[Cb _ j0 (by rw[List.length_set];omega),gJ h0 (by omega) j0];split
  · rfl
  · rfl
theorem iZ{l:List cd}(h10:l.length=10){i k:Int}:k∈fx l i <-> (0<=k/\k<=9)/\((0<k/\(nth l k).so ≠ 0/\(nth l k).box=i/\(nth l i).so=1)\/k∈(nth l i).dk):=by
  unfold fx;rw[ot];constructor
  · rintro⟨j,y,h1,h2,h3⟩;have hl:=eA h1;rw[Nat.zero_add]at h2 h3;subst h3;refine⟨⟨by omega,by omega⟩,?_⟩;rw[nW h1];unfold vU at h2;simp only[Bool.or_eq_true,RG,decide_eq_true_eq,bne_iff_ne,ne_eq,beq_iff_eq,List.contains_iff_mem]at h2
    rcases h2 with⟨a,b,c,d⟩|a
    · exact .inl ⟨a,b,c,d⟩
    · exact .inr a
  · rintro⟨⟨k0,k9⟩,q⟩;refine⟨k.toNat,nth l k,fO k0 (by omega),?_,by rw[Nat.zero_add];omega⟩;rw[Nat.zero_add];unfold vU;rw[Int.toNat_of_nonneg k0];simp only[Bool.or_eq_true,RG,decide_eq_true_eq,bne_iff_ne,ne_eq,beq_iff_eq,List.contains_iff_mem]
    rcases q with⟨a,b,c,d⟩|a
    · exact .inl ⟨a,b,c,d⟩
    · exact .inr a
theorem KM{i:Int}{o:cd}{k:Int}(k0:0<=k)(h:k∈(kR i o).dk):k∈o.dk/\k ≠ i\/o.so=0/\k∈o.dk:=by
  unfold kR at h;split at h
  · rename_i c;exact .inr ⟨by simpa using c,h⟩
  · obtain⟨v,hv,e⟩:=List.mem_map.1 h;unfold tG at e;split at e
    · omega
    · rename_i c;subst e;exact .inl ⟨hv,by simpa using c⟩
theorem Bi{l:List cd}(h:Ar l){i:Int}(h0:1<=i)(h9:i<=9){j k:Int}(j0:0<=j)(j9:j<=9)(q:k∈fx (mh l i) j):k∈fx l j/\k ≠ i/\j ≠ i:=by
  have h10:=h.len
  have f10:(mh l i).length=10:=by unfold mh;rw[List.length_map,List.length_set];exact h10
  obtain⟨⟨k0,k9⟩,q⟩:=(iZ f10).1 q;rw[nI h10 (by omega) h9 j0 j9,nI h10 (by omega) h9 k0 k9]at q
  have hji:j ≠ i:=by
    intro e;subst e;rw[if_pos rfl]at q
    rcases q with q|q
    · exact absurd q.2.2.2 (show(0:Int) ≠ 1 by decide)
    · simp[blank]at q
  rw[if_neg (Ne.symm hji)]at q
  rcases q with⟨a,b,c,d⟩|q
  · have hki:k ≠ i:=by
      intro e;subst e;rw[if_pos rfl]at b;exact b rfl
    rw[if_neg (Ne.symm hki),oG]at b;rw[if_neg (Ne.symm hki)]at c;rw[oG]at d;refine⟨(iZ h10).2 ⟨⟨k0,k9⟩,.inl ⟨a,b,?_,d⟩⟩,hki,hji⟩;unfold kR at c;rw[if_neg (by simpa using b)]at c;dsimp only at c;split at c
    · omega
    · exact c
  · rcases KM k0 q with e|e
    · exact⟨(iZ h10).2 ⟨⟨k0,k9⟩,.inr e.1⟩,e.2,hji⟩
    · rw[pc (h.ok _ (h.at j0 j9).2) (by simpa using e.1)]at e;simp[blank]at e
theorem I6{l:List cd}(h:Ar l){i:Int}(h0:1<=i)(h9:i<=9){j k:Int}(j0:0<=j)(j9:j<=9)(hj:j ≠ i)(hk:k ≠ i)(q:k∈fx l j):k∈fx (mh l i) j:=by
  have h10:=h.len
  have f10:(mh l i).length=10:=by unfold mh;rw[List.length_map,List.length_set];exact h10
  obtain⟨⟨k0,k9⟩,q⟩:=(iZ h10).1 q;refine(iZ f10).2 ⟨⟨k0,k9⟩,?_⟩;rw[nI h10 (by omega) h9 j0 j9,nI h10 (by omega) h9 k0 k9,if_neg (Ne.symm hj),if_neg (Ne.symm hk),oG,oG]
  rcases q with⟨a,b,c,d⟩|q
  · refine .inl ⟨a,b,?_,d⟩;unfold kR;rw[if_neg (by simpa using b)];dsimp only;rw[if_neg (by simp;omega)];exact c
  · refine .inr ?_;unfold kR;split
    · exact q
    · exact List.mem_map.2 ⟨k,q,by unfold tG;rw[if_neg (by simpa using hk)]⟩
theorem zo{l:List cd}(h10:l.length=10){i:Int}(h0:0<=i)(h9:i<=9){j:Int}(j0:0<=j)(j9:j<=9)(hj:j ≠ i)(now:Int):ey (nth (mh l i) j) now=ey (nth l j) now:=by
  rw[nI h10 h0 h9 j0 j9,if_neg (Ne.symm hj)];unfold ey;rw[oG,HZ]
theorem FX{l:List cd}(h:Ar l){i:Int}(h0:1<=i)(h9:i<=9){now:Int}{k:Int}(r:Reaches (mh l i) now k):Reaches l now k:=by
  induction r with
  | root=>exact .root
  | step q1 q2 q3 ih =>
    obtain⟨j0,j9⟩:=ih.kT h;obtain⟨e1,e2,e3⟩:=Bi h h0 h9 j0 j9 q2;obtain⟨k0,k1⟩:=jv e1;rw[zo h.len (by omega) h9 k0 (by have:=h.len;omega) e2]at q3;exact .step ih e1 q3
theorem Gv{l:List cd}(h:Ar l){i:Int}(h0:1<=i)(h9:i<=9){now:Int}(hn:¬ Reaches l now i){k:Int}(r:Reaches l now k):Reaches (mh l i) now k:=by
  induction r with
  | root=>exact .root
  | step q1 q2 q3 ih =>
    rename_i a b;obtain⟨j0,j9⟩:=q1.kT h;obtain⟨k0,k1⟩:=jv q2;have ha:a ≠ i:=fun e=>hn (e ▸ q1);have hb:b ≠ i:=fun e=>hn (e ▸ .step q1 q2 q3);refine .step ih (I6 h h0 h9 j0 j9 ha hb q2) ?_;rw[zo h.len (by omega) h9 k0 (by have:=h.len;omega) hb];exact q3
theorem Ed(i:Int)(o:cd):(kR i o).mark=o.mark:=by unfold kR;split<;>rfl
theorem B1(i:Int)(o:cd):(kR i o).Rt=o.Rt:=by unfold kR;split<;>rfl
theorem AG{h:df}(q:Hk h)(p0:0<=h.gc.Rs)(p9:h.gc.Rs<=9)(now:Int):(gp h now=true/\1<=h.gc.Rs/\fJ h now=mh h.ag h.gc.Rs)\/(gp h now=false/\fJ h now=h.ag.set h.gc.Rs.toNat (marked (nth h.ag h.gc.Rs) false)):=by
  unfold fJ;cases hf:gp h now
  · exact .inr ⟨rfl,rfl⟩
  · unfold gp at hf;simp only[RG,bne_iff_ne,ne_eq]at hf;refine .inl ⟨rfl,by omega,?_⟩;rw[if_pos rfl];unfold jx
    rw[if_pos (by
      rw[fu.2 q.ar];simp only[RF,RG,dI,bne_iff_ne,ne_eq]
      exact⟨⟨by omega,p9⟩,hf.2.1⟩)]
    rfl
theorem Sf.free{h:df}{now:Int}(s:Sf h now)(c:h.gc.Rj=1)(hf:gp h now=true):¬ Reaches h.ag now h.gc.Rs:=by
  intro r;unfold gp at hf;simp only[RG,bne_iff_ne,ne_eq,Bool.or_eq_true,Bool.not_eq_true']at hf;have:=r.kT s.hk.ar
  rcases hf.2.2 with e|e
  · rw[np s.hk.ar r hf.1]at e;cases e
  · rw[s.hi c _ (by omega) (Int.le_refl _) r]at e;cases e
theorem Sf.fJ{h:df}{now:Int}(s:Sf h now)(c:h.gc.Rj=1):
    (∀k,Reaches (fJ h now) now k <-> Reaches h.ag now k)/\(∀j,0<=j->j<=9->(nth (Kx.fJ h now) j).mark=if h.gc.Rs=j then false else(nth h.ag j).mark) /\
    ∀j,Reaches h.ag now j->(nth (Kx.fJ h now) j).Rt=(nth h.ag j).Rt/\(nth (Kx.fJ h now) j).so=(nth h.ag j).so:=by
  rcases rr s.hk with e|⟨_,p0,p9,g⟩
  · exact absurd (e.symm.trans c) (by decide)
  have ar:=s.hk.ar;have h10:=ar.len
  rcases AG s.hk p0 p9 now with⟨hf,p1,e⟩|⟨hf,e⟩
  · have hn:=s.free c hf;rw[e];refine⟨fun k=>⟨FX ar p1 p9,Gv ar p1 p9 hn⟩,fun j j0 j9=>?_,fun j r=>?_⟩
    · rw[nI h10 p0 p9 j0 j9];split
      · rfl
      · exact Ed _ _
    · obtain⟨j0,j9⟩:=r.kT ar;rw[nI h10 p0 p9 j0 j9,if_neg (fun e:h.gc.Rs=j=>hn (by rw[e];exact r))];exact⟨B1 _ _,oG _ _⟩
  · rw[e];have hs:=nD (l:=h.ag) (i:=h.gc.Rs) p0 (by omega) (z:=marked (nth h.ag h.gc.Rs) false) rfl
    have ar':Ar (h.ag.set h.gc.Rs.toNat (marked (nth h.ag h.gc.Rs) false)):=ar.mark p0 p9 false fun h=>by cases h
    refine⟨fun k=>⟨lL ar' hs.symm,lL ar hs⟩,fun j j0 j9=>?_,fun j r=>?_⟩
    · rw[gJ p0 (by omega) j0];split
      · rfl
      · rfl
    · obtain⟨j0,j9⟩:=r.kT ar;rw[gJ p0 (by omega) j0];split
      · rename_i e;subst e;exact⟨rfl,rfl⟩
      · exact⟨rfl,rfl⟩
theorem wV{l:List cd}(h10:l.length=10):l.map gf=(qn l).map gf:=nD (l:=l) (i:=0) (by omega) (by omega) rfl
theorem Sf.step{h:df}{now:Int}(s:Sf h now):Sf (fA h now).1 now/\(∀k,Reaches (fA h now).1.ag now k <-> Reaches h.ag now k) /\
    ∀j,Reaches h.ag now j->(nth (fA h now).1.ag j).Rt=(nth h.ag j).Rt/\(nth (fA h now).1.ag j).so=(nth h.ag j).so:=by
  have hk':=s.hk.step now;have ar:=s.hk.ar;have h10:=ar.len
  have iJ:∀t:df,Ar t.ag->h.ag.map gf=t.ag.map gf->(∀k,Reaches t.ag now k <-> Reaches h.ag now k) /\
      ∀j,Reaches h.ag now j->(nth t.ag j).Rt=(nth h.ag j).Rt/\(nth t.ag j).so=(nth h.ag j).so:=fun t at_ e =>
    ⟨fun k=>⟨lL at_ e.symm,lL ar e⟩,fun j r=>by
      obtain⟨j0,j9⟩:=r.kT ar;have:=jt e j0 (by omega)
      exact⟨(congrArg Sk.Rt this).symm,(congrArg Sk.so this).symm⟩⟩
  unfold fA at hk'⊢;rw[if_pos (gG.2 s.hk)]at hk'⊢
  rcases rr s.hk with c|⟨c,p0,p9,g⟩
  · rw[if_neg (by rw[c];decide)]at hk'⊢;dsimp only at hk'⊢;unfold mM at hk'⊢;split at hk'
    · rename_i hg;rw[if_pos hg];refine⟨⟨hk',fun _ i i0 i1=>?_,fun _ i i0 _ r=>?_,fun e=>absurd e (show(1:Int) ≠ 0 by decide)⟩,iJ _ ar rfl⟩
      · exact absurd i1 (show ¬ i<0 by omega)
      · have hnil:h.gc.da=[]:=List.length_eq_zero_iff.1 hg
        have key:∀i,Reaches h.ag now i->i=0\/(nth h.ag i).mark=true:=fun i r=>by
          induction r with
          | root=>exact .inl rfl
          | step q1 q2 q3 ih =>
            rename_i a b;obtain⟨k0,_⟩:=jv q2
            by_cases b0:b=0
            · exact .inl b0
            · exact .inr (s.bl c a q1 (by rw[hnil];simp) ih b q2 (by omega) (.step q1 q2 q3))
        rcases key i r with e|e
        · omega
        · exact e
    · rename_i hg;rw[if_neg hg];obtain⟨l0,l9⟩:=kF (gG.2 s.hk) hg
      have hsub:∀i,i∈h.gc.da->i=dw h\/i∈gw h:=fun i hi=>by
        obtain⟨k,hk⟩:=List.getElem?_of_mem hi;have hl:=eA hk
        by_cases e:k=h.gc.da.length-1
        · refine .inl ?_;unfold dw;rw[show((h.gc.da.length:Int)-1)=(k:Int) by omega,nW hk]
        · refine .inr ?_;unfold gw;exact List.mem_of_getElem? (i:=k) (by rw[List.getElem?_take,if_pos (by omega)];exact hk)
      split at hk'
      · rename_i he;rw[if_pos he];simp only[RG,bne_iff_ne,ne_eq]at he;refine⟨⟨hk',fun e=>absurd (c.symm.trans e) (by decide),fun e=>absurd (c.symm.trans e) (by decide),fun _ i r1 r2 r3 k k1 k2 k3=>?_⟩,iJ _ ar rfl⟩;refine s.bl c i r1 (fun hi=>?_) r3 k k1 k2 k3
        rcases hsub i hi with e|e
        · rw[e]at r1;have:=np ar r1 he.1;rw[he.2]at this;cases this
        · exact r2 e
      · rename_i he;rw[if_neg he];have hb:nth h.ag (dw h)=nth h.ag (dw h):=rfl;have hs0:=nD (l:=h.ag) (i:=dw h) l0 (by omega) (z:=marked (nth h.ag (dw h)) true) rfl;obtain⟨c1,c2,c3⟩:=tD (l:=h.ag) (now:=now) (fx h.ag (dw h)) (df.mk (h.ag.set (dw h).toNat (marked (nth h.ag (dw h)) true)) (eS.mk h.gc.Rj h.gc.Rs h.gc.Rk (gw h))) (by dsimp only;rw[List.length_set];exact h10) (kz ar (dw h)).1 hs0
        have hm:∀j,0<=j->nth (h.ag.set (dw h).toNat (marked (nth h.ag (dw h)) true)) j=if dw h=j then marked (nth h.ag (dw h)) true else nth h.ag j:=fun j hj=>gJ l0 (by omega) hj
        have hsk:=hs0.trans c1.sk;obtain⟨k1,k2⟩:=iJ _ hk'.ar hsk;refine⟨⟨hk',fun e=>absurd (c.symm.trans (c1.ph.symm.trans e)) (by decide),fun e=>absurd (c.symm.trans (c1.ph.symm.trans e)) (by decide),fun _ i r1 r2 r3 k q1 q2 q3=>?_⟩,k1,k2⟩;have r1':=(k1 i).1 r1;have q3':=(k1 k).1 q3;obtain⟨i0,i9⟩:=r1'.kT ar;obtain⟨k0,k9⟩:=q3'.kT ar;rw[<- tO hsk i0 (by omega)]at q1;have live:=np ar q3' (by omega)
        by_cases e:i=dw h
        · subst e;exact c2 c k q1 live
        · have hi0:i=0\/(nth h.ag i).mark=true:=by
            rcases r3 with r3|r3
            · exact .inl r3
            · refine .inr ?_
              rcases c1.dn i i0 i9 r3 with d|d
              · dsimp only at d;rw[hm i i0,if_neg (Ne.symm e)]at d;exact d
              · exact absurd d r2
          have hig:i∉h.gc.da:=fun hi=>by
            rcases hsub i hi with e'|e'
            · exact e e'
            · exact r2 (c1.gr i e')
          have:=s.bl c i r1' hig hi0 k q1 q2 q3';refine c1.up k k0 k9 ?_;dsimp only;rw[hm k k0];split
          · rfl
          · exact this
  · rw[if_pos (by rw[c];rfl)]at hk'⊢;obtain⟨w1,w2,w3⟩:=s.fJ c;unfold iC at hk'⊢;have sar:Ar (Kx.fJ h now):=ub s.hk p0 p9 now;split at hk'
    · rename_i c9
      have c9:h.gc.Rs=9:=by simpa using c9
      rw[if_pos (by rw[c9];rfl)];dsimp only at hk'⊢;have fs:=wV sar.len;have fr:∀k,Reaches (qn (Kx.fJ h now)) now k <-> Reaches h.ag now k:=fun k=>Iff.trans ⟨lL hk'.ar fs.symm,lL sar fs⟩ (w1 k);refine⟨⟨hk',fun e=>absurd e (show(0:Int) ≠ 1 by decide),fun e=>absurd e (show(0:Int) ≠ 1 by decide),fun _ i r1 r2 r3 k q1 q2 q3=>?_⟩,fr,fun j r=>?_⟩
      · dsimp only at r1 r2 r3;obtain⟨i0,i9⟩:=r1.kT hk'.ar;have hi:i ≠ 0:=fun e=>r2 (by simp[e])
        rcases r3 with r3|r3
        · exact absurd r3 hi
        · unfold qn at r3;rw[show(0:Nat)=(0:Int).toNat from rfl,gJ (by omega) (by have:=sar.len;omega) i0,if_neg (Ne.symm hi),w2 i i0 i9]at r3;split at r3
          · cases r3
          · rw[s.lo c i i0 (by omega)]at r3;cases r3
      · obtain⟨j0,j9⟩:=r.kT ar;have:=jt fs j0 (by have:=sar.len;omega);have a:(nth (Kx.fJ h now) j).Rt=(nth (qn (Kx.fJ h now)) j).Rt:=congrArg Sk.Rt this;have b:(nth (Kx.fJ h now) j).so=(nth (qn (Kx.fJ h now)) j).so:=congrArg Sk.so this;rw[<- a, <- b];exact w3 j r
    · rename_i c9
      have c9:h.gc.Rs ≠ 9:=by simpa using c9
      rw[if_neg (by simpa using c9)];dsimp only at hk'⊢;refine⟨⟨hk',fun _ i i0 i1=>?_,fun _ i i0 i1 r=>?_,fun e=>absurd (c.symm.trans e) (by decide)⟩,w1,w3⟩
      · dsimp only at i1⊢;rw[w2 i i0 (by omega)];split
        · rfl
        · exact s.lo c i i0 (by omega)
      · dsimp only at i1 r⊢;have r':=(w1 i).1 r;obtain⟨_,i9⟩:=r'.kT ar;rw[w2 i (by omega) i9,if_neg (by omega)];exact s.hi c i i0 (by omega) r'
theorem xk{p q:Nat->Bool}:∀l:List Nat,(∀k,k∈l->p k=true->q k=true)->(l.filter p).length<=(l.filter q).length
  | [],_=>Nat.le_refl _
  | k::l,h=>by
    have ih:=xk l fun j hj=>h j (by simp[hj]);have hk:=h k (by simp);simp only[List.filter_cons];cases hp:p k<;>cases hq:q k<;>simp[hp,hq]at hk⊢<;>omega
theorem D4{p q:Nat->Bool}:∀l:List Nat,(∀k,k∈l->p k=true->q k=true)->(∃k,k∈l/\q k=true/\p k=false)->(l.filter p).length+1<=(l.filter q).length
  | [],_,h=>by obtain⟨k,h,_⟩:=h;simp at h
  | k::l,h,hx=>by
    have ih:=xk l fun j hj=>h j (by simp[hj]);have hk:=h k (by simp);obtain⟨j,hj,q1,q2⟩:=hx;simp only[List.filter_cons]
    rcases List.mem_cons.1 hj with rfl|hj
    · rw[q1,q2];simp only[if_true,Bool.false_eq_true,if_false,List.length_cons];omega
    · have ih2:=D4 l (fun j hj=>h j (by simp[hj])) ⟨j,hj,q1,q2⟩;cases hp:p k<;>cases hq:q k<;>simp[hp,hq]at hk⊢<;>omega
def El(h:df)(now:Int)(k:Nat):Bool:=h.gc.da.contains (k:Int) || (!(nth h.ag (k:Int)).mark&&!ey (nth h.ag (k:Int)) now)
def v7(h:df)(now:Int):Nat:=((List.range 10).filter (El h now)).length
def l8(h:df)(now:Int):Nat:=if h.gc.Rj=1 then(10-h.gc.Rs).toNat else 11+v7 h now
theorem O8(h:df)(now:Int):v7 h now<=10:=Nat.le_trans (List.length_filter_le _ _) (by rw[List.length_range];exact Nat.le_refl _)
theorem nC{h:df}{now:Int}{k:Nat}:El h now k=true <-> (k:Int)∈h.gc.da\/((nth h.ag (k:Int)).mark=false/\ey (nth h.ag (k:Int)) now=false):=by
  unfold El;simp
theorem xP{h:df}(q:Hk h)(now:Int):1<=l8 h now/\l8 h now<=21:=by
  have:=O8 h now;unfold l8
  rcases rr q with c|⟨c,p0,p9,g⟩
  · rw[if_neg (by rw[c];decide)];omega
  · rw[if_pos c];omega
theorem NM{h:df}(q:Hk h)(now:Int):h.ag.map gf=(fA h now).1.ag.map gf\/(h.gc.Rj=1/\1<=h.gc.Rs/\h.gc.Rs<=9/\gp h now=true/\Ar (mh h.ag h.gc.Rs)/\(mh h.ag h.gc.Rs).map gf=(fA h now).1.ag.map gf):=by
  have ar:=q.ar;have h10:=ar.len;unfold fA;rw[if_pos (gG.2 q)]
  rcases rr q with c|⟨c,p0,p9,g⟩
  · rw[if_neg (by rw[c];decide)];refine .inl ?_;unfold mM;split
    · rfl
    · rename_i hg;obtain⟨l0,l9⟩:=kF (gG.2 q) hg;split
      · rfl
      · have hs0:=nD (l:=h.ag) (i:=dw h) l0 (by omega) (z:=marked (nth h.ag (dw h)) true) rfl;exact hs0.trans (tD (l:=h.ag) (now:=now) (fx h.ag (dw h)) (df.mk (h.ag.set (dw h).toNat (marked (nth h.ag (dw h)) true)) (eS.mk h.gc.Rj h.gc.Rs h.gc.Rk (gw h))) (by dsimp only;rw[List.length_set];exact h10) (kz ar (dw h)).1 hs0).1.sk
  · rw[if_pos (by rw[c];rfl)];have sar:Ar (fJ h now):=ub q p0 p9 now
    have e:(fJ h now).map gf=(iC h now).1.ag.map gf:=by
      unfold iC;dsimp only;split
      · exact wV sar.len
      · rfl
    rcases AG q p0 p9 now with⟨hf,p1,e1⟩|⟨hf,e1⟩
    · exact .inr ⟨c,p1,p9,hf,by rw[<- e1];exact sar,by rw[<- e1];exact e⟩
    · refine .inl ?_;rw[<- e,e1];exact nD p0 (by omega) rfl
def Al(g:Int->Int)(D:Int->Prop)(l:List cd)(k:Int):Prop:=D k/\(nth l k).so ≠ 0/\(nth l k).Rt=g k
structure Dm (g:Int->Int) (D:Int->Prop) (l:List cd) (now:Int):Prop where
  rg:∀i,D i->1<=i/\i<=9
  ge:∀i,D i->g i<=(nth l i).Rt
  cl:∀j k,0<=j->j<=9->k∈fx l j->Al g D l k->ey (nth l k) now=false->Al g D l j
theorem Dm.un{g:Int->Int}{D:Int->Prop}{l:List cd}{now:Int}(ar:Ar l)(d:Dm g D l now){k:Int}(r:Reaches l now k):¬ Al g D l k:=by
  induction r with
  | root=>intro a;have:=d.rg 0 a.1;omega
  | step q1 q2 q3 ih =>
    intro a;obtain⟨j0,j9⟩:=q1.kT ar;exact ih (d.cl _ _ j0 j9 q2 a q3)
theorem uh{g:Int->Int}{D:Int->Prop}{l m:List cd}(h10:l.length=10)(h:l.map gf=m.map gf){k:Int}(k0:0<=k)(k9:k<=9):Al g D m k <-> Al g D l k:=by
  have e:=jt h k0 (by omega);unfold Al;rw[show(nth l k).so=(nth m k).so from congrArg Sk.so e,show(nth l k).Rt=(nth m k).Rt from congrArg Sk.Rt e]
theorem Dm.gf{g:Int->Int}{D:Int->Prop}{l m:List cd}{now:Int}(h10:l.length=10)(h:l.map gf=m.map gf)(d:Dm g D l now):Dm g D m now:=by
  refine⟨d.rg,fun i di=>?_,fun j k j0 j9 q a x=>?_⟩
  · obtain⟨i1,i9⟩:=d.rg i di;rw[<- show(nth l i).Rt=(nth m i).Rt from congrArg Sk.Rt (jt h (by omega) (by omega))];exact d.ge i di
  rw[<- tO h j0 (by omega)]at q;obtain⟨k0,k9⟩:=jv q;rw[<- pN (jt h k0 k9) now]at x;exact(uh h10 h j0 j9).2 (d.cl j k j0 j9 q ((uh h10 h k0 (by omega)).1 a) x)
theorem x6{g:Int->Int}{D:Int->Prop}{l:List cd}(h10:l.length=10){i:Int}(h0:0<=i)(h9:i<=9){k:Int}(k0:0<=k)(k9:k<=9):Al g D (mh l i) k <-> Al g D l k/\k ≠ i:=by
  unfold Al;rw[nI h10 h0 h9 k0 k9];split
  · rename_i e;exact⟨fun a=>absurd rfl a.2.1,fun a=>absurd e.symm a.2⟩
  · rename_i e;rw[oG,B1];exact⟨fun a=>⟨a,Ne.symm e⟩,fun a=>a.1⟩
theorem Dm.mh{g:Int->Int}{D:Int->Prop}{l:List cd}{now:Int}(ar:Ar l){i:Int}(h0:1<=i)(h9:i<=9)(d:Dm g D l now):Dm g D (mh l i) now:=by
  refine⟨d.rg,fun j di=>?_,fun j k j0 j9 q a x=>?_⟩
  · obtain⟨j1,j9⟩:=d.rg j di;rw[nI ar.len (by omega) h9 (by omega) j9];split
    · rename_i e;subst e;exact d.ge _ di
    · rw[B1];exact d.ge j di
  obtain⟨e1,e2,e3⟩:=Bi ar h0 h9 j0 j9 q;obtain⟨k0,k1⟩:=jv e1;have h10:=ar.len;rw[zo h10 (by omega) h9 k0 (by omega) e2]at x;exact(x6 h10 (by omega) h9 j0 j9).2 ⟨d.cl j k j0 j9 e1 ((x6 h10 (by omega) h9 k0 (by omega)).1 a).1 x,e3⟩
theorem Dm.step{g:Int->Int}{D:Int->Prop}{h:df}{now:Int}(q:Hk h)(d:Dm g D h.ag now):Dm g D (fA h now).1.ag now/\∀k,Al g D (fA h now).1.ag k->Al g D h.ag k:=by
  have h10:=q.ar.len
  rcases NM q now with e|⟨c,p1,p9,hf,ar,e⟩
  · refine⟨d.gf h10 e,fun k a=>?_⟩;obtain⟨k1,k9⟩:=d.rg k a.1;exact(uh h10 e (by omega) k9).1 a
  · have f10:=ar.len;refine⟨(d.mh q.ar p1 p9).gf f10 e,fun k a=>?_⟩;obtain⟨k1,k9⟩:=d.rg k a.1;exact((x6 h10 (by omega) p9 (by omega) k9).1 ((uh f10 e (by omega) k9).1 a)).1
def Cy(g:Int->Int)(D:Int->Prop)(h:df):Prop:=∀i,Al g D h.ag i->(nth h.ag i).mark=false/\(h.gc.Rj=0->i∉h.gc.da)/\(h.gc.Rj=1->h.gc.Rs<=i)
theorem AK{h:df}(hg:h.gc.da.length ≠ 0)(q:h.gc.da.Nodup):dw h∈h.gc.da/\dw h∉gw h:=by
  have e:h.gc.da[h.gc.da.length-1]?=some (dw h):=by
    have:=fO (l:=h.gc.da) (i:=(h.gc.da.length:Int)-1) (by omega) (by omega);rw[show((h.gc.da.length:Int)-1).toNat=h.gc.da.length-1 by omega]at this;exact this
  refine⟨List.mem_of_getElem? e,fun hm=>?_⟩;unfold gw at hm;obtain⟨j,hj,e2⟩:=List.mem_iff_getElem.1 hm;rw[List.length_take]at hj;rw[List.getElem_take]at e2;have:=List.pairwise_iff_getElem.1 q j (h.gc.da.length-1) (by omega) (by omega) (by omega);rw[List.getElem?_eq_getElem (by omega)]at e;exact this (e2.trans (Option.some.inj e).symm)
theorem xV{l:List cd}{now:Int}:∀(e:List Int) (h:df),h.ag.length=10->(∀y,y∈e->0<=y/\y<=9)->∀i,i∈(e.foldl (fM l now) h).gc.da->i∈h.gc.da\/(i∈e/\(nth h.ag i).mark=false/\ey (nth l i) now=false)
  | [],h,_,_,i,q=>.inl q
  | k::e,h,h10,he,i,q=>by
    rw[List.foldl_cons]at q;obtain⟨k0,k9⟩:=he k (by simp)
    have hl:(fM l now h k).ag.length=10:=by unfold fM;split<;>first|exact h10|(rw[wM];exact h10)
    rcases xV e _ hl (fun y hy=>he y (by simp[hy])) i q with d|⟨d1,d2,d3⟩
    · unfold fM at d;split at d
      · exact .inl d
      · rename_i hx;unfold fP at d;split at d
        · rename_i c;simp only[RG,Bool.not_eq_true']at c;dsimp only at d;split at d
          · exact .inl d
          · rcases List.mem_append.1 d with d|d
            · exact .inl d
            · have:i=k:=by simpa using d
              subst this;exact .inr ⟨by simp,c.2.2,by simpa using hx⟩
        · exact .inl d
    · refine .inr ⟨by simp[d1],?_,d3⟩;cases hm:(nth h.ag i).mark
      · rfl
      · have i0:=(he i (by simp[d1])).1;have i9:=(he i (by simp[d1])).2;unfold fM at d2;split at d2
        · rw[hm]at d2;cases d2
        · rw[(wK h10 k0 k9).1.up i i0 i9 hm]at d2;cases d2
theorem Cy.step{g:Int->Int}{D:Int->Prop}{h:df}{now:Int}(q:Hk h)(d:Dm g D h.ag now)(y:Cy g D h):Cy g D (fA h now).1/\(h.gc.Rj=1->h.gc.Rs=9->∀i, ¬ Al g D (fA h now).1.ag i):=by
  have ar:=q.ar;have h10:=ar.len;have dn:=(d.step q).2;have rg:=d.rg;unfold fA at dn⊢;rw[if_pos (gG.2 q)]at dn⊢
  rcases rr q with c|⟨c,p0,p9,gr⟩
  · rw[if_neg (by rw[c];decide)]at dn⊢;dsimp only at dn⊢;refine⟨fun i a=>?_,fun e=>absurd (c.symm.trans e) (by decide)⟩;obtain⟨a1,a2,_⟩:=y i (dn i a);obtain⟨i1,i9⟩:=rg i a.1;have a2:=a2 c;unfold mM at a dn⊢;split
    · exact⟨a1,fun e=>absurd e (show(1:Int) ≠ 0 by decide),fun _=>by dsimp only;omega⟩
    · rename_i hg;rw[if_neg hg]at a dn;obtain⟨l0,l9⟩:=kF (gG.2 q) hg;obtain⟨m1,m2⟩:=AK hg q.nd;split
      · exact⟨a1,fun _ hi=>a2 (mz h i hi),fun e=>absurd (c.symm.trans e) (by decide)⟩
      · rename_i he;rw[if_neg he]at a dn;have hs0:=nD (l:=h.ag) (i:=dw h) l0 (by omega) (z:=marked (nth h.ag (dw h)) true) rfl;obtain⟨c1,c2,c3⟩:=tD (l:=h.ag) (now:=now) (fx h.ag (dw h)) (df.mk (h.ag.set (dw h).toNat (marked (nth h.ag (dw h)) true)) (eS.mk h.gc.Rj h.gc.Rs h.gc.Rk (gw h))) (by dsimp only;rw[List.length_set];exact h10) (kz ar (dw h)).1 hs0;have hil:dw h ≠ i:=fun e=>a2 (e ▸ m1)
        have hno:¬ (i∈fx h.ag (dw h)/\ey (nth h.ag i) now=false):=fun⟨e1,e2⟩=>by
          have al:=d.cl (dw h) i l0 l9 e1 (dn i a) e2;exact(y _ al).2.1 c m1
        have g2:=xV (l:=h.ag) (now:=now) (fx h.ag (dw h)) (df.mk (h.ag.set (dw h).toNat (marked (nth h.ag (dw h)) true)) (eS.mk h.gc.Rj h.gc.Rs h.gc.Rk (gw h))) (by dsimp only;rw[List.length_set];exact h10) (kz ar (dw h)).1;refine⟨?_,fun _ hi=>?_,fun e=>absurd (c.symm.trans (c1.ph.symm.trans e)) (by decide)⟩
        · cases hm:(nth (List.foldl (fM h.ag now) (df.mk (h.ag.set (dw h).toNat (marked (nth h.ag (dw h)) true)) (eS.mk h.gc.Rj h.gc.Rs h.gc.Rk (gw h))) (fx h.ag (dw h))).ag i).mark
          · rfl
          · rcases c3 i (by omega) i9 hm with e|e
            · dsimp only at e;rw[gJ l0 (by omega) (by omega),if_neg hil,a1]at e;cases e
            · exact absurd e hno
        · rcases g2 i hi with e|e
          · exact a2 (mz h i e)
          · exact hno ⟨e.1,e.2.2⟩
  · rw[if_pos (by rw[c];rfl)]at dn⊢;have sar:Ar (fJ h now):=ub q p0 p9 now
    have sw:∀i,Al g D (fJ h now) i->(nth (fJ h now) i).mark=false/\h.gc.Rs<i:=fun i a=>by
      obtain⟨i1,i9⟩:=rg i a.1
      rcases AG q p0 p9 now with⟨hf,p1,e1⟩|⟨hf,e1⟩
      · rw[e1]at a⊢;obtain⟨a,hne⟩:=(x6 h10 p0 p9 (by omega) i9).1 a;obtain⟨b1,_,b2⟩:=y i a;have b2:=b2 c;rw[nI h10 p0 p9 (by omega) i9,if_neg (Ne.symm hne),Ed];exact⟨b1,by omega⟩
      · rw[e1]at a⊢;have hs:=nD (l:=h.ag) (i:=h.gc.Rs) p0 (by omega) (z:=marked (nth h.ag h.gc.Rs) false) rfl;have a:=(uh h10 hs (by omega) i9).1 a;obtain⟨b1,_,b2⟩:=y i a;have b2:=b2 c
        have hne:h.gc.Rs ≠ i:=fun e=>by
          unfold gp at hf;rw[e,b1]at hf
          have:(i != 0)=true:=by simp;omega
          have hk:((nth h.ag i).so != 0)=true:=by simpa using a.2.1
          rw[this,hk]at hf;simp at hf
        rw[gJ p0 (by omega) (by omega),if_neg hne];exact⟨b1,by omega⟩
    unfold iC;dsimp only;split
    · rename_i c9
      have c9:h.gc.Rs=9:=by simpa using c9
      have none_:∀i, ¬ Al g D (qn (fJ h now)) i:=fun i a=>by
        obtain⟨i1,i9⟩:=rg i a.1;have a:=(uh sar.len (wV sar.len) (by omega) i9).1 a;have:=(sw i a).2;omega
      exact⟨fun i a=>absurd a (none_ i),fun _ _=>none_⟩
    · rename_i c9
      have c9:h.gc.Rs ≠ 9:=by simpa using c9
      refine⟨fun i a=>?_,fun _ e=>absurd e c9⟩;obtain⟨b1,b2⟩:=sw i a;exact⟨b1,fun e=>absurd (c.symm.trans e) (by decide),fun _=>by dsimp only;omega⟩
theorem Cy.fresh{g:Int->Int}{D:Int->Prop}{h:df}{now:Int}(s:Sf h now)(d:Dm g D h.ag now)(c:h.gc.Rj=1)(c9:h.gc.Rs=9):Cy g D (fA h now).1:=by
  have q:=s.hk;have h10:=q.ar.len;unfold fA;rw[if_pos (gG.2 q),if_pos (by rw[c];rfl)];unfold iC;dsimp only;rw[if_pos (by rw[c9];rfl)];obtain⟨_,w2,_⟩:=s.fJ c;have sar:Ar (fJ h now):=ub q (by omega) (by omega) now;intro i a;obtain⟨i1,i9⟩:=d.rg i a.1;refine⟨?_,fun _ hi=>?_,fun e=>absurd e (show(0:Int) ≠ 1 by decide)⟩
  · show(nth (qn (fJ h now)) i).mark=false
    unfold qn;rw[show(0:Nat)=(0:Int).toNat from rfl,gJ (by omega) (by have:=sar.len;omega) (by omega),if_neg (by omega),w2 i (by omega) i9];split
    · rfl
    · exact s.lo c i (by omega) (by omega)
  · have:i=0:=by simpa using hi
    omega
theorem CP{h:df}(q:Hk h)(now:Int):(h.gc.Rj=1/\h.gc.Rs=9)\/l8 (fA h now).1 now+1<=l8 h now:=by
  have q':=q.step now;have ar:=q.ar;have h10:=ar.len;unfold fA at q'⊢;rw[if_pos (gG.2 q)]at q'⊢
  rcases rr q with c|⟨c,p0,p9,gr⟩
  · rw[if_neg (by rw[c];decide)]at q'⊢;refine .inr ?_;dsimp only at q'⊢
    have el:l8 h now=11+v7 h now:=by unfold l8;rw[if_neg (by rw[c];decide)]
    rw[el];unfold mM at q'⊢;split
    · unfold l8;rw[if_pos rfl];dsimp only;omega
    · rename_i hg;rw[if_neg hg]at q';obtain⟨l0,l9⟩:=kF (gG.2 q) hg;obtain⟨m1,m2⟩:=AK hg q.nd;split
      · rename_i he;simp only[RG,bne_iff_ne,ne_eq]at he;unfold l8;rw[if_neg (by dsimp only;rw[c];decide)]
        have:v7 ⟨h.ag,⟨h.gc.Rj,h.gc.Rs,h.gc.Rk,gw h⟩⟩ now+1<=v7 h now:=by
          refine D4 _ (fun k _ hk=>?_) ⟨(dw h).toNat,by rw[List.mem_range];omega,?_,?_⟩
          · rw[nC]at hk⊢
            rcases hk with hk|hk
            · exact .inl (mz h _ hk)
            · exact .inr hk
          · rw[nC,Int.toNat_of_nonneg l0];exact .inl m1
          · cases hp:El ⟨h.ag,⟨h.gc.Rj,h.gc.Rs,h.gc.Rk,gw h⟩⟩ now (dw h).toNat
            · rfl
            · rw[nC,Int.toNat_of_nonneg l0]at hp
              rcases hp with hp|hp
              · exact absurd hp m2
              · have:=hp.2;dsimp only at this;rw[he.2]at this;cases this
        omega
      · rename_i he;have hs0:=nD (l:=h.ag) (i:=dw h) l0 (by omega) (z:=marked (nth h.ag (dw h)) true) rfl;obtain⟨c1,c2,c3⟩:=tD (l:=h.ag) (now:=now) (fx h.ag (dw h)) (df.mk (h.ag.set (dw h).toNat (marked (nth h.ag (dw h)) true)) (eS.mk h.gc.Rj h.gc.Rs h.gc.Rk (gw h))) (by dsimp only;rw[List.length_set];exact h10) (kz ar (dw h)).1 hs0;have g2:=xV (l:=h.ag) (now:=now) (fx h.ag (dw h)) (df.mk (h.ag.set (dw h).toNat (marked (nth h.ag (dw h)) true)) (eS.mk h.gc.Rj h.gc.Rs h.gc.Rk (gw h))) (by dsimp only;rw[List.length_set];exact h10) (kz ar (dw h)).1;have hsk:=hs0.trans c1.sk;unfold l8;rw[if_neg (by rw[c1.ph];dsimp only;rw[c];decide)];generalize (List.foldl (fM h.ag now) (df.mk (h.ag.set (dw h).toNat (marked (nth h.ag (dw h)) true)) (eS.mk h.gc.Rj h.gc.Rs h.gc.Rk (gw h))) (fx h.ag (dw h)))=t at *
        have hm:∀j,0<=j->nth (h.ag.set (dw h).toNat (marked (nth h.ag (dw h)) true)) j=if dw h=j then marked (nth h.ag (dw h)) true else nth h.ag j:=fun j hj=>gJ l0 (by omega) hj
        have mL:(nth t.ag (dw h)).mark=true:=c1.up _ l0 l9 (by dsimp only;rw[hm _ l0,if_pos rfl];rfl)
        have nL:dw h∉t.gc.da:=fun hi=>by
          rcases g2 _ hi with e|⟨_,e,_⟩
          · exact m2 e
          · dsimp only at e;rw[hm _ l0,if_pos rfl]at e;cases e
        have:v7 t now+1<=v7 h now:=by
          refine D4 _ (fun k hk' hk=>?_) ⟨(dw h).toNat,by rw[List.mem_range];omega,?_,?_⟩
          · rw[List.mem_range]at hk';rw[nC]at hk⊢
            rcases hk with hk|hk
            · rcases g2 _ hk with e|⟨e1,e2,e3⟩
              · exact .inl (mz h _ e)
              · refine .inr ⟨?_,e3⟩;dsimp only at e2;rw[hm _ (by omega)]at e2;split at e2
                · cases e2
                · exact e2
            · refine .inr ⟨?_,?_⟩
              · cases hq:(nth h.ag (k:Int)).mark
                · rfl
                · have:=c1.up (k:Int) (by omega) (by omega) (by dsimp only;rw[hm _ (by omega)];split<;>first|rfl|exact hq);rw[hk.1]at this;cases this
              · rw[pN (jt hsk (i:=(k:Int)) (by omega) (by omega)) now];exact hk.2
          · rw[nC,Int.toNat_of_nonneg l0];exact .inl m1
          · cases hp:El t now (dw h).toNat
            · rfl
            · rw[nC,Int.toNat_of_nonneg l0]at hp
              rcases hp with hp|hp
              · exact absurd hp nL
              · rw[mL]at hp;cases hp.1
        omega
  · rw[if_pos (by rw[c];rfl)]at q'⊢
    by_cases c9:h.gc.Rs=9
    · exact .inl ⟨c,c9⟩
    · refine .inr ?_;unfold iC;dsimp only;rw[if_neg (by simpa using c9)];unfold l8;rw[if_pos c,if_pos c];dsimp only;omega
def QC(g:Int->Int)(D:Int->Prop)(h:df)(now:Int)(n:Nat):Prop:=(∀i, ¬ Al g D h.ag i)\/(Cy g D h/\l8 h now<=n)\/l8 h now+21<=n
structure Rec (g:Int->Int) (D:Int->Prop) (h:df) (now:Int) (n:Nat):Prop where
  sf:Sf h now
  dm:Dm g D h.ag now
  td:QC g D h now n
theorem Rec.start{g:Int->Int}{D:Int->Prop}{h:df}{now:Int}(s:Sf h now)(d:Dm g D h.ag now):Rec g D h now 42:=by
  refine⟨s,d,.inr (.inr ?_)⟩;have:=xP s.hk now;omega
theorem Rec.done{g:Int->Int}{D:Int->Prop}{h:df}{now:Int}(r:Rec g D h now 0):∀i, ¬ Al g D h.ag i:=by
  have:=xP r.sf.hk now
  rcases r.td with e|e|e
  · exact e
  · omega
  · omega
theorem Rec.more{g:Int->Int}{D:Int->Prop}{h:df}{now:Int}{a b:Nat}(q:a<=b)(r:Rec g D h now a):Rec g D h now b:=by
  refine⟨r.sf,r.dm,?_⟩
  rcases r.td with e|e|e
  · exact .inl e
  · exact .inr (.inl ⟨e.1,by omega⟩)
  · exact .inr (.inr (by omega))
theorem Rec.step{g:Int->Int}{D:Int->Prop}{h:df}{now:Int}{n:Nat}(r:Rec g D h now (n+1)):Rec g D (fA h now).1 now n:=by
  obtain⟨d1,d2⟩:=r.dm.step r.sf.hk;refine⟨r.sf.step.1,d1,?_⟩;have hp:=xP r.sf.hk now;have hp':=xP r.sf.step.1.hk now
  rcases r.td with e|⟨y,e⟩|e
  · exact .inl fun i a=>e i (d2 i a)
  · obtain⟨y1,y2⟩:=y.step r.sf.hk r.dm
    rcases CP r.sf.hk now with⟨c,c9⟩|l
    · exact .inl (y2 c c9)
    · exact .inr (.inl ⟨y1,by omega⟩)
  · rcases CP r.sf.hk now with⟨c,c9⟩|l
    · exact .inr (.inl ⟨Cy.fresh r.sf r.dm c c9,by omega⟩)
    · exact .inr (.inr (by omega))
def MS(now:Int):Nat->df->df
  | 0,h=>h
  | k+1,h=>MS now k (fA h now).1
theorem CT(now:Int):∀(k:Nat) (c:vZ),(wc now k c).heap=MS now k c.heap
  | 0,c=>rfl
  | k+1,c=>by
    have e:(lV now c).heap=(fA c.heap now).1:=by unfold lV;split<;>rfl
    show(wc now k (lV now c)).heap=_
    rw[CT now k,e];rfl
theorem Nd{l:List cd}(ar:Ar l)(now:Int):Dm (fun i=>(nth l i).Rt) (fun i=>(1<=i/\i<=9)/\¬ Reaches l now i) l now:=by
  refine⟨fun i d=>d.1,fun _ _=>Int.le_refl _,fun j k j0 j9 q a x=>?_⟩;have hj:¬ Reaches l now j:=fun r=>a.1.2 (.step r q x);refine⟨⟨⟨?_,j9⟩,hj⟩,fun hk=>?_,rfl⟩
  · by_cases e:j=0
    · exact absurd (e ▸ Reaches.root) hj
    · omega
  · rw[BL ar j0 j9 hk]at q;simp at q
end Go.Kx
