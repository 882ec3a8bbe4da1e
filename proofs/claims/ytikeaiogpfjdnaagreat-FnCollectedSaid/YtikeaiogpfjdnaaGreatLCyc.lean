/- Plain laws: how long the collector takes. No program in sight. -/
import Derived.Test.YtikeaiogpfjdnaaGreatLSafe
namespace Go.Kx
open Go
set_option linter.unusedVariables false
set_option linter.unusedSimpArgs false
set_option maxRecDepth 10000
theorem CH {p q:Nat→Bool}:∀ l:List Nat,(∀ k,k ∈ l→p k=true→q k=true)→(l.filter p).length≤(l.filter q).length
  | [],_=>Nat.le_refl _
  | k::l,h=>by
    have ih:=CH l fun j hj=>h j (by simp [hj])
    have hk:=h k (by simp)
    simp only [List.filter_cons]
    cases hp:p k <;> cases hq:q k <;> simp [hp,hq] at hk ⊢ <;> omega
theorem zJ {p q:Nat→Bool}:∀ l:List Nat,(∀ k,k ∈ l→p k=true→q k=true)→(∃ k,k ∈ l∧q k=true∧p k=false)→(l.filter p).length+1≤(l.filter q).length
  | [],_,h=>by obtain ⟨k,h,_⟩:=h;simp at h
  | k::l,h,hx=>by
    have ih:=CH l fun j hj=>h j (by simp [hj])
    have hk:=h k (by simp)
    obtain ⟨j,hj,q1,q2⟩:=hx
    simp only [List.filter_cons]
    rcases List.mem_cons.1 hj with rfl | hj
    · rw [q1,q2]
      simp only [if_true,Bool.false_eq_true,if_false,List.length_cons]
      omega
    · have ih2:=zJ l (fun j hj=>h j (by simp [hj])) ⟨j,hj,q1,q2⟩
      cases hp:p k <;> cases hq:q k <;> simp [hp,hq] at hk ⊢ <;> omega
def zm (h:ic) (now:Int) (k:Nat):Bool:=h.gc.gE.contains (k:Int) || (!(nth h.ag (k:Int)).mark&&!iY (nth h.ag (k:Int)) now)
def yY (h:ic) (now:Int):Nat:=((List.range 10).filter (zm h now)).length
def qZ (h:ic) (now:Int):Nat:=if h.gc.phase=1 then (10 - h.gc.pos).toNat else 11+yY h now
theorem FG (h:ic) (now:Int):yY h now≤10:=Nat.le_trans (List.length_filter_le _ _) (by rw [List.length_range];exact Nat.le_refl _)
theorem rh {h:ic} {now:Int} {k:Nat}:zm h now k=true ↔ (k:Int) ∈ h.gc.gE∨((nth h.ag (k:Int)).mark=false∧iY (nth h.ag (k:Int)) now=false):=by
  unfold zm
  simp
theorem ug {h:ic} (q:Hk h) (now:Int):1≤qZ h now∧qZ h now≤21:=by
  have:=FG h now
  unfold qZ
  rcases rS q with c | ⟨c,p0,p9,g⟩
  · rw [if_neg (by rw [c];decide)];omega
  · rw [if_pos c];omega
theorem Bg {h:ic} (q:Hk h) (now:Int):h.ag.map kj=(jd h now).1.ag.map kj∨(h.gc.phase=1∧1≤h.gc.pos∧h.gc.pos≤9∧jC h now=true∧Ar (lI h.ag h.gc.pos)∧(lI h.ag h.gc.pos).map kj=(jd h now).1.ag.map kj):=by
  have ar:=q.ar
  have h10:=ar.len
  unfold jd
  rw [if_pos (kc.2 q)]
  rcases rS q with c | ⟨c,p0,p9,g⟩
  · rw [if_neg (by rw [c];decide)]
    refine .inl ?_
    unfold ly
    split
    · rfl
    · rename_i hg
      obtain ⟨l0,l9⟩:=k8 (kc.2 q) hg
      split
      · rfl
      · have hs0:=nu (l:=h.ag) (i:=ij h) l0 (by omega) (z:=marked (nth h.ag (ij h)) true) rfl
        exact hs0.trans (qo (l:=h.ag) (now:=now) (jL h.ag (ij h)) (ic.mk (h.ag.set (ij h).toNat (marked (nth h.ag (ij h)) true)) (jH.mk h.gc.phase h.gc.pos h.gc.round (jD h))) (by dsimp only;rw [List.length_set];exact h10) (k4 ar (ij h)).1 hs0).1.sk
  · rw [if_pos (by rw [c];rfl)]
    have sar:Ar (jv h now):=ra q p0 p9 now
    have e:(jv h now).map kj=(ka h now).1.ag.map kj:=by
      unfold ka
      dsimp only
      split
      · exact tj sar.len
      · rfl
    rcases wo q p0 p9 now with ⟨hf,p1,e1⟩ | ⟨hf,e1⟩
    · exact .inr ⟨c,p1,p9,hf,by rw [← e1];exact sar,by rw [← e1];exact e⟩
    · refine .inl ?_
      rw [← e,e1]
      exact nu p0 (by omega) rfl
def Al (g:Int→Int) (D:Int→Prop) (l:List bh) (k:Int):Prop:=D k∧(nth l k).kind ≠ 0∧(nth l k).gen=g k
structure Dm (g:Int→Int) (D:Int→Prop) (l:List bh) (now:Int):Prop where
  rg:∀ i,D i→1≤i∧i≤9
  cl:∀ j k,0≤j→j≤9→k ∈ jL l j→Al g D l k→iY (nth l k) now=false→Al g D l j
theorem sd {g:Int→Int} {D:Int→Prop} {l m:List bh} (h10:l.length=10) (h:l.map kj=m.map kj) {k:Int} (k0:0≤k) (k9:k≤9):Al g D m k ↔ Al g D l k:=by
  have e:=kS h k0 (by omega)
  unfold Al
  rw [show (nth l k).kind=(nth m k).kind from congrArg Sk.kind e,show (nth l k).gen=(nth m k).gen from congrArg Sk.gen e]
theorem Dm.kj {g:Int→Int} {D:Int→Prop} {l m:List bh} {now:Int} (h10:l.length=10) (h:l.map kj=m.map kj) (d:Dm g D l now):Dm g D m now:=by
  refine ⟨d.rg,fun j k j0 j9 q a x=>?_⟩
  rw [← tU h j0 (by omega)] at q
  obtain ⟨k0,k9⟩:=l8 q
  rw [← sx (kS h k0 k9) now] at x
  exact (sd h10 h j0 j9).2 (d.cl j k j0 j9 q ((sd h10 h k0 (by omega)).1 a) x)
theorem uk {g:Int→Int} {D:Int→Prop} {l:List bh} (h10:l.length=10) {i:Int} (h0:0≤i) (h9:i≤9) {k:Int} (k0:0≤k) (k9:k≤9):Al g D (lI l i) k ↔ Al g D l k∧k ≠ i:=by
  unfold Al
  rw [mX h10 h0 h9 k0 k9]
  split
  · rename_i e
    exact ⟨fun a=>absurd rfl a.2.1,fun a=>absurd e.symm a.2⟩
  · rename_i e
    rw [nC,xB]
    exact ⟨fun a=>⟨a,Ne.symm e⟩,fun a=>a.1⟩
theorem Dm.lI {g:Int→Int} {D:Int→Prop} {l:List bh} {now:Int} (ar:Ar l) {i:Int} (h0:1≤i) (h9:i≤9) (d:Dm g D l now):Dm g D (lI l i) now:=by
  refine ⟨d.rg,fun j k j0 j9 q a x=>?_⟩
  obtain ⟨e1,e2,e3⟩:=wL ar h0 h9 j0 j9 q
  obtain ⟨k0,k1⟩:=l8 e1
  have h10:=ar.len
  rw [uX h10 (by omega) h9 k0 (by omega) e2] at x
  exact (uk h10 (by omega) h9 j0 j9).2 ⟨d.cl j k j0 j9 e1 ((uk h10 (by omega) h9 k0 (by omega)).1 a).1 x,e3⟩
theorem Dm.step {g:Int→Int} {D:Int→Prop} {h:ic} {now:Int} (q:Hk h) (d:Dm g D h.ag now):Dm g D (jd h now).1.ag now∧∀ k,Al g D (jd h now).1.ag k→Al g D h.ag k:=by
  have h10:=q.ar.len
  rcases Bg q now with e | ⟨c,p1,p9,hf,ar,e⟩
  · refine ⟨d.kj h10 e,fun k a=>?_⟩
    obtain ⟨k1,k9⟩:=d.rg k a.1
    exact (sd h10 e (by omega) k9).1 a
  · have f10:=ar.len
    refine ⟨(d.lI q.ar p1 p9).kj f10 e,fun k a=>?_⟩
    obtain ⟨k1,k9⟩:=d.rg k a.1
    exact ((uk h10 (by omega) p9 (by omega) k9).1 ((sd f10 e (by omega) k9).1 a)).1
def Cy (g:Int→Int) (D:Int→Prop) (h:ic):Prop:=∀ i,Al g D h.ag i→(nth h.ag i).mark=false∧(h.gc.phase=0→i ∉ h.gc.gE)∧(h.gc.phase=1→h.gc.pos≤i)
theorem wx {h:ic} (hg:h.gc.gE.length ≠ 0) (q:h.gc.gE.Nodup):ij h ∈ h.gc.gE∧ij h ∉ jD h:=by
  have e:h.gc.gE[h.gc.gE.length - 1]?=some (ij h):=by
    have:=lj (l:=h.gc.gE) (i:=(h.gc.gE.length:Int) - 1) (by omega) (by omega)
    rw [show ((h.gc.gE.length:Int) - 1).toNat=h.gc.gE.length - 1 by omega] at this
    exact this
  refine ⟨List.mem_of_getElem? e,fun hm=>?_⟩
  unfold jD at hm
  obtain ⟨j,hj,e2⟩:=List.mem_iff_getElem.1 hm
  rw [List.length_take] at hj
  rw [List.getElem_take] at e2
  have:=List.pairwise_iff_getElem.1 q j (h.gc.gE.length - 1) (by omega) (by omega) (by omega)
  rw [List.getElem?_eq_getElem (by omega)] at e
  exact this (e2.trans (Option.some.inj e).symm)
theorem ue {l:List bh} {now:Int}:∀ (e:List Int) (h:ic),h.ag.length=10→(∀ y,y ∈ e→0≤y∧y≤9)→∀ i,i ∈ (e.foldl (jm l now) h).gc.gE→i ∈ h.gc.gE∨(i ∈ e∧(nth h.ag i).mark=false∧iY (nth l i) now=false)
  | [],h,_,_,i,q=>.inl q
  | k::e,h,h10,he,i,q=>by
    rw [List.foldl_cons] at q
    obtain ⟨k0,k9⟩:=he k (by simp)
    have hl:(jm l now h k).ag.length=10:=by unfold jm;split <;> first | exact h10 | (rw [tu];exact h10)
    rcases ue e _ hl (fun y hy=>he y (by simp [hy])) i q with d | ⟨d1,d2,d3⟩
    · unfold jm at d
      split at d
      · exact .inl d
      · rename_i hx
        unfold ku at d
        split at d
        · rename_i c
          simp only [Bool.and_eq_true,Bool.not_eq_true'] at c
          dsimp only at d
          split at d
          · exact .inl d
          · rcases List.mem_append.1 d with d | d
            · exact .inl d
            · have:i=k:=by simpa using d
              subst this
              exact .inr ⟨by simp,c.2.2,by simpa using hx⟩
        · exact .inl d
    · refine .inr ⟨by simp [d1],?_,d3⟩
      cases hm:(nth h.ag i).mark
      · rfl
      · have i0:=(he i (by simp [d1])).1
        have i9:=(he i (by simp [d1])).2
        unfold jm at d2
        split at d2
        · rw [hm] at d2;cases d2
        · rw [(xS h10 k0 k9).1.up i i0 i9 hm] at d2;cases d2
theorem Cy.step {g:Int→Int} {D:Int→Prop} {h:ic} {now:Int} (q:Hk h) (d:Dm g D h.ag now) (y:Cy g D h):Cy g D (jd h now).1∧(h.gc.phase=1→h.gc.pos=9→∀ i, ¬ Al g D (jd h now).1.ag i):=by
  have ar:=q.ar
  have h10:=ar.len
  have dn:=(d.step q).2
  have rg:=d.rg
  unfold jd at dn ⊢
  rw [if_pos (kc.2 q)] at dn ⊢
  rcases rS q with c | ⟨c,p0,p9,gr⟩
  · rw [if_neg (by rw [c];decide)] at dn ⊢
    dsimp only at dn ⊢
    refine ⟨fun i a=>?_,fun e=>absurd (c.symm.trans e) (by decide)⟩
    obtain ⟨a1,a2,_⟩:=y i (dn i a)
    obtain ⟨i1,i9⟩:=rg i a.1
    have a2:=a2 c
    unfold ly at a dn ⊢
    split
    · exact ⟨a1,fun e=>absurd e (show (1:Int) ≠ 0 by decide),fun _=>by dsimp only;omega⟩
    · rename_i hg
      rw [if_neg hg] at a dn
      obtain ⟨l0,l9⟩:=k8 (kc.2 q) hg
      obtain ⟨m1,m2⟩:=wx hg q.nd
      split
      · exact ⟨a1,fun _ hi=>a2 (mi h i hi),fun e=>absurd (c.symm.trans e) (by decide)⟩
      · rename_i he
        rw [if_neg he] at a dn
        have hs0:=nu (l:=h.ag) (i:=ij h) l0 (by omega) (z:=marked (nth h.ag (ij h)) true) rfl
        obtain ⟨c1,c2,c3⟩:=qo (l:=h.ag) (now:=now) (jL h.ag (ij h)) (ic.mk (h.ag.set (ij h).toNat (marked (nth h.ag (ij h)) true)) (jH.mk h.gc.phase h.gc.pos h.gc.round (jD h))) (by dsimp only;rw [List.length_set];exact h10) (k4 ar (ij h)).1 hs0
        have hil:ij h ≠ i:=fun e=>a2 (e ▸ m1)
        have hno:¬ (i ∈ jL h.ag (ij h)∧iY (nth h.ag i) now=false):=fun ⟨e1,e2⟩=>by
          have al:=d.cl (ij h) i l0 l9 e1 (dn i a) e2
          exact (y _ al).2.1 c m1
        have g2:=ue (l:=h.ag) (now:=now) (jL h.ag (ij h)) (ic.mk (h.ag.set (ij h).toNat (marked (nth h.ag (ij h)) true)) (jH.mk h.gc.phase h.gc.pos h.gc.round (jD h))) (by dsimp only;rw [List.length_set];exact h10) (k4 ar (ij h)).1
        refine ⟨?_,fun _ hi=>?_,fun e=>absurd (c.symm.trans (c1.ph.symm.trans e)) (by decide)⟩
        · cases hm:(nth (List.foldl (jm h.ag now) (ic.mk (h.ag.set (ij h).toNat (marked (nth h.ag (ij h)) true)) (jH.mk h.gc.phase h.gc.pos h.gc.round (jD h))) (jL h.ag (ij h))).ag i).mark
          · rfl
          · rcases c3 i (by omega) i9 hm with e | e
            · dsimp only at e
              rw [lk l0 (by omega) (by omega),if_neg hil,a1] at e
              cases e
            · exact absurd e hno
        · rcases g2 i hi with e | e
          · exact a2 (mi h i e)
          · exact hno ⟨e.1,e.2.2⟩
  · rw [if_pos (by rw [c];rfl)] at dn ⊢
    have sar:Ar (jv h now):=ra q p0 p9 now
    have sw:∀ i,Al g D (jv h now) i→(nth (jv h now) i).mark=false∧h.gc.pos<i:=fun i a=>by
      obtain ⟨i1,i9⟩:=rg i a.1
      rcases wo q p0 p9 now with ⟨hf,p1,e1⟩ | ⟨hf,e1⟩
      · rw [e1] at a ⊢
        obtain ⟨a,hne⟩:=(uk h10 p0 p9 (by omega) i9).1 a
        obtain ⟨b1,_,b2⟩:=y i a
        have b2:=b2 c
        rw [mX h10 p0 p9 (by omega) i9,if_neg (Ne.symm hne),zy]
        exact ⟨b1,by omega⟩
      · rw [e1] at a ⊢
        have hs:=nu (l:=h.ag) (i:=h.gc.pos) p0 (by omega) (z:=marked (nth h.ag h.gc.pos) false) rfl
        have a:=(sd h10 hs (by omega) i9).1 a
        obtain ⟨b1,_,b2⟩:=y i a
        have b2:=b2 c
        have hne:h.gc.pos ≠ i:=fun e=>by
          unfold jC at hf
          rw [e,b1] at hf
          have:(i != 0)=true:=by simp;omega
          have hk:((nth h.ag i).kind != 0)=true:=by simpa using a.2.1
          rw [this,hk] at hf
          simp at hf
        rw [lk p0 (by omega) (by omega),if_neg hne]
        exact ⟨b1,by omega⟩
    unfold ka
    dsimp only
    split
    · rename_i c9
      have c9:h.gc.pos=9:=by simpa using c9
      have none_:∀ i, ¬ Al g D (nK (jv h now)) i:=fun i a=>by
        obtain ⟨i1,i9⟩:=rg i a.1
        have a:=(sd sar.len (tj sar.len) (by omega) i9).1 a
        have:=(sw i a).2
        omega
      exact ⟨fun i a=>absurd a (none_ i),fun _ _=>none_⟩
    · rename_i c9
      have c9:h.gc.pos ≠ 9:=by simpa using c9
      refine ⟨fun i a=>?_,fun _ e=>absurd e c9⟩
      obtain ⟨b1,b2⟩:=sw i a
      exact ⟨b1,fun e=>absurd (c.symm.trans e) (by decide),fun _=>by dsimp only;omega⟩
theorem Cy.fresh {g:Int→Int} {D:Int→Prop} {h:ic} {now:Int} (s:Sf h now) (d:Dm g D h.ag now) (c:h.gc.phase=1) (c9:h.gc.pos=9):Cy g D (jd h now).1:=by
  have q:=s.hk
  have h10:=q.ar.len
  unfold jd
  rw [if_pos (kc.2 q),if_pos (by rw [c];rfl)]
  unfold ka
  dsimp only
  rw [if_pos (by rw [c9];rfl)]
  obtain ⟨_,w2,_⟩:=s.jv c
  have sar:Ar (jv h now):=ra q (by omega) (by omega) now
  intro i a
  obtain ⟨i1,i9⟩:=d.rg i a.1
  refine ⟨?_,fun _ hi=>?_,fun e=>absurd e (show (0:Int) ≠ 1 by decide)⟩
  · show (nth (nK (jv h now)) i).mark=false
    unfold nK
    rw [show (0:Nat)=(0:Int).toNat from rfl,lk (by omega) (by have:=sar.len;omega) (by omega),if_neg (by omega),w2 i (by omega) i9]
    split
    · rfl
    · exact s.lo c i (by omega) (by omega)
  · have:i=0:=by simpa using hi
    omega
theorem xU {h:ic} (q:Hk h) (now:Int):(h.gc.phase=1∧h.gc.pos=9)∨qZ (jd h now).1 now+1≤qZ h now:=by
  have q':=q.step now
  have ar:=q.ar
  have h10:=ar.len
  unfold jd at q' ⊢
  rw [if_pos (kc.2 q)] at q' ⊢
  rcases rS q with c | ⟨c,p0,p9,gr⟩
  · rw [if_neg (by rw [c];decide)] at q' ⊢
    refine .inr ?_
    dsimp only at q' ⊢
    have el:qZ h now=11+yY h now:=by unfold qZ;rw [if_neg (by rw [c];decide)]
    rw [el]
    unfold ly at q' ⊢
    split
    · unfold qZ
      rw [if_pos rfl]
      dsimp only
      omega
    · rename_i hg
      rw [if_neg hg] at q'
      obtain ⟨l0,l9⟩:=k8 (kc.2 q) hg
      obtain ⟨m1,m2⟩:=wx hg q.nd
      split
      · rename_i he
        simp only [Bool.and_eq_true,bne_iff_ne,ne_eq] at he
        unfold qZ
        rw [if_neg (by dsimp only;rw [c];decide)]
        have:yY ⟨h.ag,⟨h.gc.phase,h.gc.pos,h.gc.round,jD h⟩⟩ now+1≤yY h now:=by
          refine zJ _ (fun k _ hk=>?_) ⟨(ij h).toNat,by rw [List.mem_range];omega,?_,?_⟩
          · rw [rh] at hk ⊢
            rcases hk with hk | hk
            · exact .inl (mi h _ hk)
            · exact .inr hk
          · rw [rh,Int.toNat_of_nonneg l0];exact .inl m1
          · cases hp:zm ⟨h.ag,⟨h.gc.phase,h.gc.pos,h.gc.round,jD h⟩⟩ now (ij h).toNat
            · rfl
            · rw [rh,Int.toNat_of_nonneg l0] at hp
              rcases hp with hp | hp
              · exact absurd hp m2
              · have:=hp.2
                dsimp only at this
                rw [he.2] at this;cases this
        omega
      · rename_i he
        have hs0:=nu (l:=h.ag) (i:=ij h) l0 (by omega) (z:=marked (nth h.ag (ij h)) true) rfl
        obtain ⟨c1,c2,c3⟩:=qo (l:=h.ag) (now:=now) (jL h.ag (ij h)) (ic.mk (h.ag.set (ij h).toNat (marked (nth h.ag (ij h)) true)) (jH.mk h.gc.phase h.gc.pos h.gc.round (jD h))) (by dsimp only;rw [List.length_set];exact h10) (k4 ar (ij h)).1 hs0
        have g2:=ue (l:=h.ag) (now:=now) (jL h.ag (ij h)) (ic.mk (h.ag.set (ij h).toNat (marked (nth h.ag (ij h)) true)) (jH.mk h.gc.phase h.gc.pos h.gc.round (jD h))) (by dsimp only;rw [List.length_set];exact h10) (k4 ar (ij h)).1
        have hsk:=hs0.trans c1.sk
        unfold qZ
        rw [if_neg (by rw [c1.ph];dsimp only;rw [c];decide)]
        generalize (List.foldl (jm h.ag now) (ic.mk (h.ag.set (ij h).toNat (marked (nth h.ag (ij h)) true)) (jH.mk h.gc.phase h.gc.pos h.gc.round (jD h))) (jL h.ag (ij h)))=t at *
        have hm:∀ j,0≤j→nth (h.ag.set (ij h).toNat (marked (nth h.ag (ij h)) true)) j=if ij h=j then marked (nth h.ag (ij h)) true else nth h.ag j:=fun j hj=>lk l0 (by omega) hj
        have mL:(nth t.ag (ij h)).mark=true:=c1.up _ l0 l9 (by dsimp only;rw [hm _ l0,if_pos rfl];rfl)
        have nL:ij h ∉ t.gc.gE:=fun hi=>by
          rcases g2 _ hi with e | ⟨_,e,_⟩
          · exact m2 e
          · dsimp only at e
            rw [hm _ l0,if_pos rfl] at e;cases e
        have:yY t now+1≤yY h now:=by
          refine zJ _ (fun k hk' hk=>?_) ⟨(ij h).toNat,by rw [List.mem_range];omega,?_,?_⟩
          · rw [List.mem_range] at hk'
            rw [rh] at hk ⊢
            rcases hk with hk | hk
            · rcases g2 _ hk with e | ⟨e1,e2,e3⟩
              · exact .inl (mi h _ e)
              · refine .inr ⟨?_,e3⟩
                dsimp only at e2
                rw [hm _ (by omega)] at e2
                split at e2
                · cases e2
                · exact e2
            · refine .inr ⟨?_,?_⟩
              · cases hq:(nth h.ag (k:Int)).mark
                · rfl
                · have:=c1.up (k:Int) (by omega) (by omega) (by dsimp only;rw [hm _ (by omega)];split <;> first | rfl | exact hq)
                  rw [hk.1] at this;cases this
              · rw [sx (kS hsk (i:=(k:Int)) (by omega) (by omega)) now];exact hk.2
          · rw [rh,Int.toNat_of_nonneg l0];exact .inl m1
          · cases hp:zm t now (ij h).toNat
            · rfl
            · rw [rh,Int.toNat_of_nonneg l0] at hp
              rcases hp with hp | hp
              · exact absurd hp nL
              · rw [mL] at hp;cases hp.1
        omega
  · rw [if_pos (by rw [c];rfl)] at q' ⊢
    by_cases c9:h.gc.pos=9
    · exact .inl ⟨c,c9⟩
    · refine .inr ?_
      unfold ka
      dsimp only
      rw [if_neg (by simpa using c9)]
      unfold qZ
      rw [if_pos c,if_pos c]
      dsimp only
      omega
def Gt (g:Int→Int) (D:Int→Prop) (h:ic) (now:Int) (n:Nat):Prop:=(∀ i, ¬ Al g D h.ag i)∨(Cy g D h∧qZ h now≤n)∨qZ h now+21≤n
structure Rec (g:Int→Int) (D:Int→Prop) (h:ic) (now:Int) (n:Nat):Prop where
  sf:Sf h now
  dm:Dm g D h.ag now
  td:Gt g D h now n
theorem Rec.start {g:Int→Int} {D:Int→Prop} {h:ic} {now:Int} (s:Sf h now) (d:Dm g D h.ag now):Rec g D h now 42:=by
  refine ⟨s,d,.inr (.inr ?_)⟩
  have:=ug s.hk now
  omega
theorem Rec.done {g:Int→Int} {D:Int→Prop} {h:ic} {now:Int} (r:Rec g D h now 0):∀ i, ¬ Al g D h.ag i:=by
  have:=ug r.sf.hk now
  rcases r.td with e | e | e
  · exact e
  · omega
  · omega
theorem Rec.more {g:Int→Int} {D:Int→Prop} {h:ic} {now:Int} {a b:Nat} (q:a≤b) (r:Rec g D h now a):Rec g D h now b:=by
  refine ⟨r.sf,r.dm,?_⟩
  rcases r.td with e | e | e
  · exact .inl e
  · exact .inr (.inl ⟨e.1,by omega⟩)
  · exact .inr (.inr (by omega))
theorem Rec.step {g:Int→Int} {D:Int→Prop} {h:ic} {now:Int} {n:Nat} (r:Rec g D h now (n+1)):Rec g D (jd h now).1 now n:=by
  obtain ⟨d1,d2⟩:=r.dm.step r.sf.hk
  refine ⟨r.sf.step.1,d1,?_⟩
  have hp:=ug r.sf.hk now
  have hp':=ug r.sf.step.1.hk now
  rcases r.td with e | ⟨y,e⟩ | e
  · exact .inl fun i a=>e i (d2 i a)
  · obtain ⟨y1,y2⟩:=y.step r.sf.hk r.dm
    rcases xU r.sf.hk now with ⟨c,c9⟩ | l
    · exact .inl (y2 c c9)
    · exact .inr (.inl ⟨y1,by omega⟩)
  · rcases xU r.sf.hk now with ⟨c,c9⟩ | l
    · exact .inr (.inl ⟨Cy.fresh r.sf r.dm c c9,by omega⟩)
    · exact .inr (.inr (by omega))
end Go.Kx
