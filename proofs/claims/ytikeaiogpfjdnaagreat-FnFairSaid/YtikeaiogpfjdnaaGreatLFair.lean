/- The plain law of 'FnFair'. No program in sight. -/
import Derived.Test.YtikeaiogpfjdnaaGreatLCollect
import Derived.Test.YtikeaiogpfjdnaaGreatLDrawP
namespace Go.Kx
open Go
set_option linter.unusedVariables false
set_option linter.unusedSimpArgs false
set_option maxRecDepth 10000
theorem l_has3 {N:Nat} (hN:BIG≤N) {l:List Int} {x:Int} (hb:l.length<BIG):F_l_has N l x=some (l.contains x):=s_l4Has hN hb
theorem same3 {N:Nat} (hN:BIG≤N) {l:List Int} (hl:l.length<BIG):F_l_sameInts N l l=some true:=by
  unfold F_l_sameInts
  rw [iter_all l (fun _ _=>true) (.inl (l.length:Int)) (.inr false) (Nat.lt_of_lt_of_le hl hN)]
  · rw [show allI (fun _ _=>true) 0 l=true from allI_iff.2 fun _ _ _=>rfl]
    simp
  · intro k y hy hk
    simp only [lt_dec hk,cond_true,idx_nat,hy,Option.bind_some,bne_self_eq_false,cond_false,wrap1 (Nat.lt_trans hk hl),if_true]
  · simp only [ge_dec,cond_false]
theorem set_skel {l:List DObj} {i:Int} {z:DObj} (h0:0≤i) (h1:i<(l.length:Int)) (e:skel z=skel (nth l i)):(l.set i.toNat z).map skel=l.map skel:=by
  rw [List.map_set,e]
  exact set_get (nth_skel i h0 h1)
theorem ran_obj {o:DObj} (h:objOk o=true) (hk:o.kind=4) (hr:o.ran<1000000):objOk (ranMore o)=true:=by
  have r0:=(ran_le h).1
  have hk0:(o.kind==0)=false:=by rw [hk];rfl
  have hk4:(o.kind != 4)=false:=by rw [hk];rfl
  unfold objOk at h ⊢
  have hk0':((ranMore o).kind==0)=false:=hk0
  have hk4':((ranMore o).kind != 4)=false:=hk4
  rw [hk0] at h
  rw [hk0']
  simp only [cond_false,Bool.and_eq_true] at h ⊢
  obtain ⟨a1,a2,a3,a4,a5,a6,a7,a8⟩:=h
  rw [hk4] at a8
  rw [hk4']
  simp only [cond_false,Bool.and_eq_true] at a8 ⊢
  exact ⟨a1,a2,a3,a4,a5,a6,a7,a8.1,a8.2.1,inR_iff.2 ⟨by show 0≤IntKind.i64.wrap (o.ran+1);rw [wrap_ok (by omega) (by omega)];omega,by show IntKind.i64.wrap (o.ran+1)≤1000000;rw [wrap_ok (by omega) (by omega)];omega⟩⟩
def ranPart (p : DPart) (now : Int) : DPart := DPart.mk p.label p.own (treePay p.tree (resOf p (nth p.heap.arena (nextOf p now)).res) ⟨0, 0, 1⟩).1 (DHeap.mk (p.heap.arena.set (nextOf p now).toNat (ranMore (nth p.heap.arena (nextOf p now)))) p.heap.gc) p.taps (nextOf p now) 0
        (DAmt.mk p.spent.pages p.spent.rent (IntKind.i64.wrap (p.spent.cpu + 1))) p.press p.lost
theorem run_is {p:DPart} {now:Int} (ok:partOk p=true) (hr:noRun p now=false):partRun p now=(ranPart p now,nextOf p now):=by
  unfold partRun
  rw [if_pos ok,hr]
  rfl
theorem noRun_at {p:DPart} {now:Int} (hr:noRun p now=false):p.spent.cpu<1000000∧(nth p.heap.arena (nextOf p now)).ran<1000000:=by
  unfold noRun at hr
  simp only [Bool.or_eq_false_iff,decide_eq_false_iff_not] at hr
  omega
theorem ran_arena {p:DPart} {now:Int} (ok:partOk p=true) (hr:noRun p now=false):(ranPart p now).heap.arena.map skel=p.heap.arena.map skel∧Ar (ranPart p now).heap.arena:=by
  have ar:=partOk_ar ok
  obtain ⟨q0,q9⟩:=thr_rng (List.mem_filter.1 (nextOf_run hr)).1
  have hk:=(thr_live (List.mem_filter.1 (nextOf_run hr)).1).1
  have hl:=ar.len
  have hs:=set_skel (l:=p.heap.arena) (z:=ranMore (nth p.heap.arena (nextOf p now))) q0 (by omega) rfl
  refine ⟨hs,ar.skel hs.symm fun o ho=>?_⟩
  rcases List.mem_or_eq_of_mem_set ho with q | q
  · exact ar.ok o q
  · rw [q]
    exact ran_obj (ar.ok _ (ar.at q0 q9).2) hk (noRun_at hr).2
theorem run_ok {p:DPart} {now:Int} (ok:partOk p=true) (hr:noRun p now=false):partOk (ranPart p now)=true:=by
  have hA:=arenaOk_iff.2 (ran_arena ok hr).2
  have hT:=treeOk_iff.2 (pay_keep (run_pay ok (nextOf_run hr))).1
  obtain ⟨q0,q9⟩:=thr_rng (List.mem_filter.1 (nextOf_run hr)).1
  have hc:=(noRun_at hr).1
  have sp:=amtOk_rng (partOk_spent ok)
  unfold partOk heapOk restOk at *
  simp only [Bool.and_eq_true] at ok ⊢
  obtain ⟨a,b,c,⟨_,d⟩,e,f,g1,g2,g3,g4⟩:=ok
  refine ⟨a,b,hT,⟨hA,d⟩,e,f,inR_iff.2 ⟨q0,q9⟩,rfl,?_,g4⟩
  refine amtOk_iff.2 ⟨sp.1,sp.2.1,?_⟩
  show 0≤IntKind.i64.wrap (p.spent.cpu+1)∧IntKind.i64.wrap (p.spent.cpu+1)≤1000000
  rw [wrap_ok (by omega) (by omega)]
  omega
theorem held_pg {l m:List DObj} (h:l.map DObj.pages=m.map DObj.pages) (hl:∀ o,o ∈ l→objOk o=true) (hm:∀ o,o ∈ m→objOk o=true):((l.take 10).filter objOk).foldl (fun n o=>IntKind.i64.wrap (n+o.pages)) 0=((m.take 10).filter objOk).foldl (fun n o=>IntKind.i64.wrap (n+o.pages)) 0:=by
  rw [List.filter_eq_self.2 fun o ho=>hl o (List.mem_of_mem_take ho),List.filter_eq_self.2 fun o ho=>hm o (List.mem_of_mem_take ho)]
  have key:∀ (x:List DObj) (s:Int),x.foldl (fun n o=>IntKind.i64.wrap (n+o.pages)) s=(x.map DObj.pages).foldl (fun n k=>IntKind.i64.wrap (n+k)) s:=fun x s=>by rw [List.foldl_map]
  rw [key,key,List.map_take,List.map_take,h]
theorem ran_sum {p:DPart} {now:Int} (ok:partOk p=true) (hr:noRun p now=false):partSum (ranPart p now)=partSum p:=by
  have ar:=partOk_ar ok
  obtain ⟨q0,q9⟩:=thr_rng (List.mem_filter.1 (nextOf_run hr)).1
  have hl:=ar.len
  have hp:(ranPart p now).heap.arena.map DObj.pages=p.heap.arena.map DObj.pages:=by
    show (p.heap.arena.set (nextOf p now).toNat (ranMore (nth p.heap.arena (nextOf p now)))).map DObj.pages=_
    rw [List.map_set]
    exact set_get (by rw [List.getElem?_map,nth_get q0 (by omega)];rfl)
  have e:held (ranPart p now)=held p:=held_pg hp (ran_arena ok hr).2.ok ar.ok
  obtain ⟨s1,s2,s3⟩:=run_sum ok (nextOf_run hr)
  have o1:=partOk_spent ok
  have o2:=partOk_spent (run_ok ok hr)
  have hc:=(noRun_at hr).1
  have sp:=amtOk_rng o1
  unfold partSum
  rw [o1,o2,e]
  simp only [if_true]
  show amtSum ⟨IntKind.i64.wrap ((treeSum (treePay p.tree (resOf p (nth p.heap.arena (nextOf p now)).res) ⟨0,0,1⟩).1).pages+held p),(treeSum (treePay p.tree (resOf p (nth p.heap.arena (nextOf p now)).res) ⟨0,0,1⟩).1).rent,(treeSum (treePay p.tree (resOf p (nth p.heap.arena (nextOf p now)).res) ⟨0,0,1⟩).1).cpu⟩ ⟨p.spent.pages,p.spent.rent,IntKind.i64.wrap (p.spent.cpu+1)⟩=_
  rw [s1,s2,s3,wrap_ok (n:=p.spent.cpu+1) (by omega) (by omega)]
  unfold amtSum
  simp only
  rw [show (treeSum p.tree).cpu - 1+(p.spent.cpu+1)=(treeSum p.tree).cpu+p.spent.cpu by omega]
theorem collI_congr {α β:Type} {p q:Nat→α→Bool} {h:Nat→α→β}:∀ (l:List α) (k:Nat),(∀ i y,l[i]?=some y→p (k+i) y=q (k+i) y)→collI p h k l=collI q h k l
  | [],_,_=>rfl
  | y::l,k,e=>by
    have h1:=e 0 y rfl
    have h2:=collI_congr (p:=p) (q:=q) (h:=h) l (k+1) fun i z hz=>by
      have:=e (i+1) z hz
      rwa [show k+1+i=k+(i+1) by omega]
    unfold collI
    rw [Nat.add_zero] at h1
    rw [h1,h2]
theorem thr_same {p x:DPart} {now:Int} (hp:partOk p=true) (hx:partOk x=true) (h:x.heap.arena.map skel=p.heap.arena.map skel):threads x now=threads p now:=by
  have ar:=partOk_ar hp
  have ax:=partOk_ar hx
  unfold threads
  rw [if_pos hp,if_pos hx,reach_skel ax ar h]
  refine collI_congr _ 0 fun i y hy=>?_
  have hi:=lt_of_some hy
  have hlen:=(reach_is ar now).1
  have h10:=ax.len
  have h10p:=ar.len
  rw [Nat.zero_add,show (nth x.heap.arena (i:Int)).kind=(nth p.heap.arena (i:Int)).kind from congrArg Sk.kind (skel_nth h (by omega) (by omega))]
theorem collI_asc {α:Type} {p:Nat→α→Bool}:∀ (l:List α) (k:Nat),(collI p (fun k _=>(k:Int)) k l).Pairwise (·<·)∧∀ y,y ∈ collI p (fun k _=>(k:Int)) k l→(k:Int)≤y
  | [],_=>by simp [collI]
  | z::l,k=>by
    obtain ⟨a,b⟩:=collI_asc (p:=p) l (k+1)
    unfold collI
    split
    · refine ⟨List.pairwise_cons.2 ⟨fun y hy=>?_,a⟩,fun y hy=>?_⟩
      · have:=b y hy;omega
      · rcases List.mem_cons.1 hy with rfl | hy
        · exact Int.le_refl _
        · have:=b y hy;omega
    · exact ⟨a,fun y hy=>by have:=b y hy;omega⟩
theorem runnable_asc (p:DPart) (now:Int):(runnable p now).Pairwise (·<·):=by
  unfold runnable
  refine List.Pairwise.filter _ ?_
  unfold threads
  split
  · exact (collI_asc _ 0).1
  · exact List.Pairwise.nil
theorem rn_asc {last:Int}:∀ (l:List Int) (a b:Int),l.Pairwise (·<·)→(∀ y,y ∈ l→0≤y)→(0≤a→∀ y,y ∈ l→a<y)→(0≤b→∀ y,y ∈ l→b<y) →
    rnGo last (-1) a b l=if 0≤b then b else match l.find? (fun y=>decide (y > last)) with | some y=>y | none=>if 0≤a then a else l.headD a
  | [],a,b,_,_,_,_=>by
    unfold rnGo
    by_cases hb:0≤b
    · simp [hb]
    · simp only [List.find?_nil,List.headD_nil,if_neg hb]
      rw [show decide (b ≥ 0)=false from decide_eq_false hb]
      simp
  | y::l,a,b,hp,h0,ha,hb=>by
    obtain ⟨h1,h2⟩:=List.pairwise_cons.1 hp
    have y0:=h0 y (by simp)
    have g0:∀ z,z ∈ l→0≤z:=fun z hz=>h0 z (by simp [hz])
    unfold rnGo
    rw [show decide (y<0)=false from decide_eq_false (by omega),show (y==(-1:Int))=false from by rw [beq_eq_false_iff_ne];omega]
    simp only [Bool.false_eq_true,if_false]
    have ea:(if decide (a<0) || decide (y<a) then y else a)=if 0≤a then a else y:=by
      by_cases q:0≤a
      · have:=ha q y (by simp)
        rw [if_pos q,show decide (a<0)=false from decide_eq_false (by omega),show decide (y<a)=false from decide_eq_false (by omega)];rfl
      · rw [if_neg q,show decide (a<0)=true from decide_eq_true (by omega)];rfl
    have eb:(if decide (y > last)&&(decide (b<0) || decide (y<b)) then y else b)=if 0≤b then b else if y > last then y else b:=by
      by_cases q:0≤b
      · have:=hb q y (by simp)
        rw [if_pos q,show decide (b<0)=false from decide_eq_false (by omega),show decide (y<b)=false from decide_eq_false (by omega)];simp
      · rw [if_neg q,show decide (b<0)=true from decide_eq_true (by omega)];simp
    rw [ea,eb]
    rw [rn_asc l _ _ h2 g0 (fun _ z hz=>by split <;> rename_i q;exact ha q z (by simp [hz]);exact h1 z hz) (fun q2 z hz=>by
      by_cases q:0≤b
      · rw [if_pos q];exact hb q z (by simp [hz])
      · rw [if_neg q] at q2 ⊢
        by_cases q3:y > last
        · rw [if_pos q3];exact h1 z hz
        · rw [if_neg q3] at q2;exact absurd q2 q)]
    by_cases q:0≤b
    · simp [q]
    · simp only [if_neg q,List.find?_cons]
      by_cases q3:y > last
      · simp [q3,y0]
      · rw [if_neg q3,if_neg q,show decide (y > last)=false from decide_eq_false q3]
        simp only
        cases l.find? (fun y=>decide (y > last)) with
        | some z=>rfl
        | none =>
          simp only [List.headD_cons]
          by_cases qa:0≤a
          · simp [qa]
          · simp [qa,y0]
def ring (l:List Int) (k:Nat):Int:=nth l ((k % l.length:Nat):Int)
theorem ring_mem {l:List Int} (h:0<l.length) (k:Nat):ring l k ∈ l:=by
  have:=Nat.mod_lt k h
  exact nth_mem (by omega) (by omega)
theorem ring_inj {l:List Int} (hp:l.Pairwise (·<·)) {k i j:Nat} (hj:j<i) (hi:i<l.length) (e:ring l (k+i)=ring l (k+j)):False:=by
  have hn:0<l.length:=by omega
  have a1:=Nat.mod_lt (k+i) hn
  have a2:=Nat.mod_lt (k+j) hn
  have g1:=nth_get (l:=l) (i:=(((k+i) % l.length:Nat):Int)) (by omega) (by omega)
  have g2:=nth_get (l:=l) (i:=(((k+j) % l.length:Nat):Int)) (by omega) (by omega)
  have e:nth l (((k+i) % l.length:Nat):Int)=nth l (((k+j) % l.length:Nat):Int):=e
  rw [e] at g1
  rw [Int.toNat_natCast] at g1 g2
  rw [List.getElem?_eq_getElem a1] at g1
  rw [List.getElem?_eq_getElem a2] at g2
  have hpw:=List.pairwise_iff_getElem.1 hp
  have e3:(k+i) % l.length=(k+j) % l.length:=by
    rcases Nat.lt_trichotomy ((k+i) % l.length) ((k+j) % l.length) with q | q | q
    · have:=hpw _ _ a1 a2 q
      rw [Option.some.inj g1,Option.some.inj g2] at this
      omega
    · exact q
    · have:=hpw _ _ a2 a1 q
      rw [Option.some.inj g1,Option.some.inj g2] at this
      omega
  have e4:=Nat.sub_mod_eq_zero_of_mod_eq e3
  rw [show k+i - (k+j)=i - j by omega,Nat.mod_eq_of_lt (by omega)] at e4
  omega
theorem next_ring {l:List Int} (hp:l.Pairwise (·<·)) (h0:∀ y,y ∈ l→0≤y) (hn:0<l.length) (k:Nat):runNext l (ring l k) (-1)=ring l (k+1):=by
  have a1:=Nat.mod_lt k hn
  have g1:=nth_get (l:=l) (i:=((k % l.length:Nat):Int)) (by omega) (by omega)
  rw [Int.toNat_natCast,List.getElem?_eq_getElem a1] at g1
  have hpw:=List.pairwise_iff_getElem.1 hp
  unfold runNext
  rw [rn_asc l (-1) (-1) hp h0 (fun q=>absurd q (by decide)) (fun q=>absurd q (by decide))]
  rw [if_neg (show ¬ (0:Int)≤-1 by decide)]
  have er:ring l k=l[k % l.length]:=(Option.some.inj g1).symm
  by_cases hl:k % l.length+1<l.length
  · have e2:(k+1) % l.length=k % l.length+1:=by rw [Nat.add_mod,Nat.mod_eq_of_lt (show 1<l.length by omega),Nat.mod_eq_of_lt hl]
    have hf:l.find? (fun y=>decide (y > ring l k))=some l[k % l.length+1]:=by
      rw [List.find?_eq_some_iff_getElem]
      refine ⟨by rw [er];exact decide_eq_true (hpw _ _ a1 hl (by omega)),k % l.length+1,hl,rfl,fun j hj=>?_⟩
      rw [er]
      by_cases q:j=k % l.length
      · subst q;simp
      · have:=hpw j (k % l.length) (by omega) a1 (by omega)
        simp;omega
    rw [hf]
    have g2:=nth_get (l:=l) (i:=(((k+1) % l.length:Nat):Int)) (by omega) (by omega)
    rw [Int.toNat_natCast,e2,List.getElem?_eq_getElem hl] at g2
    have:ring l (k+1)=l[k % l.length+1]:=by unfold ring;rw [e2];exact (Option.some.inj g2).symm
    rw [this]
  · have e2:(k+1) % l.length=0:=by
      rw [Nat.add_mod]
      by_cases h1:l.length=1
      · rw [h1,Nat.mod_one]
      · rw [Nat.mod_eq_of_lt (show 1<l.length by omega),show k % l.length+1=l.length by omega,Nat.mod_self]
    have hf:l.find? (fun y=>decide (y > ring l k))=none:=by
      rw [List.find?_eq_none]
      intro y hy
      obtain ⟨j,hj,rfl⟩:=List.getElem_of_mem hy
      rw [er]
      by_cases q:j=k % l.length
      · subst q;simp
      · have:=hpw j (k % l.length) hj a1 (by omega)
        simp;omega
    rw [hf]
    simp only [if_neg (show ¬ (0:Int)≤-1 by decide)]
    unfold ring
    rw [e2]
    cases l with
    | nil=>simp at hn
    | cons y l=>rfl
theorem bal_paid {t:List DRes} {f:Int} (h:(treePay t f ⟨0,0,1⟩).2=true):(∀ r,liveAt (treePay t f ⟨0,0,1⟩).1 r=liveAt t r)∧∀ r,0≤r→r≤4→(nth t r).bal.cpu - 1≤(nth (treePay t f ⟨0,0,1⟩).1 r).bal.cpu∧(nth (treePay t f ⟨0,0,1⟩).1 r).bal.cpu≤(nth t r).bal.cpu:=by
  obtain ⟨h1,h2⟩:=pay_good h
  have hl:=(treeOk_iff.1 h1).len
  obtain ⟨f0,f4⟩:=liveAt_rng h2
  unfold treePay at *
  rw [h1,h2] at *
  simp only [Bool.and_self,if_true] at *
  cases hf:amtFits ⟨0,0,1⟩ (nth t f).bal
  · rw [hf] at h;simp at h
  · simp only [if_true]
    refine ⟨liveAt_bal f0 (by omega) _,fun r r0 r4=>?_⟩
    rw [nth_setR f0 (by omega) r0]
    split
    · rename_i e
      subst e
      show (nth t f).bal.cpu - 1≤(amtMinus (nth t f).bal ⟨0,0,1⟩).cpu∧(amtMinus (nth t f).bal ⟨0,0,1⟩).cpu≤_
      rw [(minus_ok hf).1]
      exact ⟨Int.le_refl _,by show (nth t f).bal.cpu - 1≤_;omega⟩
    · omega
structure Turn (p x:DPart) (l:List Int) (k0 i:Nat) (who:List Int):Prop where
  ok:partOk x=true
  w:wP x
  sz:sz_DPart x≤20000+100 * i
  sk:x.heap.arena.map skel=p.heap.arena.map skel
  wt:∀ k,0≤k→k≤9→(nth x.heap.arena k).wait=(nth p.heap.arena k).wait∧(nth x.heap.arena k).res=(nth p.heap.arena k).res
  ran:∀ k,0≤k→k≤9→k ∉ who→(nth x.heap.arena k).ran=(nth p.heap.arena k).ran
  lv:∀ r,liveAt x.tree r=liveAt p.tree r
  bal:∀ r,0≤r→r≤4→(nth p.tree r).bal.cpu - i≤(nth x.tree r).bal.cpu∧(nth x.tree r).bal.cpu≤(nth p.tree r).bal.cpu
  sp:x.spent.cpu=p.spent.cpu+i
  wa:x.want=0
  nx:runNext l x.next (-1)=ring l (k0+i)
  wh:∀ s,s ∈ who→∃ j,j<i∧s=ring l (k0+j)
  wl:who.length=i
  sum:partSum x=partSum p
theorem Turn.res {p x:DPart} {l who:List Int} {k0 i:Nat} (h:Turn p x l k0 i who) (hp:partOk p=true) {k:Int} (k0:0≤k) (k9:k≤9):(balAt p k).cpu - i≤(balAt x k).cpu∧(balAt x k).cpu≤(balAt p k).cpu:=by
  have e:resOf x (nth x.heap.arena k).res=resOf p (nth p.heap.arena k).res:=by
    rw [(h.wt k k0 k9).2]
    unfold resOf
    rw [partOk_tree h.ok,partOk_tree hp,h.lv]
  unfold balAt
  rw [e]
  obtain ⟨r0,r4⟩:=resOf_rng p (nth p.heap.arena k).res
  exact h.bal _ r0 r4
theorem Turn.less {p x:DPart} {now:Int} {l who:List Int} {k0 i:Nat} (h:Turn p x l k0 i who) (hp:partOk p=true) {y:Int} (hy:y ∈ threads p now) (hm:mayRun x y=true):mayRun p y=true:=by
  obtain ⟨y0,y9⟩:=thr_rng hy
  have hr:=h.res hp y0 y9
  unfold mayRun at *
  rw [(h.wt y y0 y9).1] at hm
  simp only [Bool.and_eq_true,decide_eq_true_eq] at *
  exact ⟨hm.1,by omega⟩
theorem Turn.list {p x:DPart} {now:Int} {who:List Int} {k0 i:Nat} (h:Turn p x (runnable p now) k0 i who) (hp:partOk p=true) (hi:i<(runnable p now).length) (hc:∀ y,y ∈ runnable p now→((runnable p now).length:Int)≤(balAt p y).cpu):runnable x now=runnable p now:=by
  show (threads x now).filter (mayRun x)=(threads p now).filter (mayRun p)
  rw [thr_same hp h.ok h.sk]
  refine List.filter_congr fun y hy=>?_
  rw [Bool.eq_iff_iff]
  refine ⟨h.less hp hy,fun q=>?_⟩
  have hm:y ∈ runnable p now:=List.mem_filter.2 ⟨hy,q⟩
  obtain ⟨y0,y9⟩:=thr_rng hy
  have hr:=h.res hp y0 y9
  have:=hc y hm
  unfold mayRun at *
  rw [(h.wt y y0 y9).1]
  simp only [Bool.and_eq_true,decide_eq_true_eq] at *
  exact ⟨q.1,by omega⟩
theorem Turn.step {p x:DPart} {now:Int} {who:List Int} {k0 i:Nat} (h:Turn p x (runnable p now) k0 i who) (hp:partOk p=true) (hi:i<(runnable p now).length) (hc:∀ y,y ∈ runnable p now→((runnable p now).length:Int)≤(balAt p y).cpu∧(nth p.heap.arena y).ran+((runnable p now).length:Int)≤1000000)
    (hs:p.spent.cpu+((runnable p now).length:Int)≤1000000) :
    (partRun x now).2=ring (runnable p now) (k0+i)∧ring (runnable p now) (k0+i) ∉ who∧Turn p (partRun x now).1 (runnable p now) k0 (i+1) (who++[ring (runnable p now) (k0+i)]):=by
  have hl:=h.list hp hi fun y hy=>(hc y hy).1
  have hn:0<(runnable p now).length:=by omega
  have hm:=ring_mem hn (k0+i)
  obtain ⟨r0,r9⟩:=thr_rng (List.mem_filter.1 hm).1
  have e:nextOf x now=ring (runnable p now) (k0+i):=by
    unfold nextOf
    rw [hl,h.wa]
    exact h.nx
  have hnot:ring (runnable p now) (k0+i) ∉ who:=fun q=>by
    obtain ⟨j,hj,ej⟩:=h.wh _ q
    exact ring_inj (runnable_asc p now) hj hi ej
  have hran:=h.ran _ r0 r9 hnot
  have hcy:=hc _ hm
  have hnr:noRun x now=false:=by
    unfold noRun
    rw [e,h.sp,hran]
    simp only [Bool.or_eq_false_iff,decide_eq_false_iff_not]
    omega
  have ax:=partOk_ar h.ok
  have hlen:=ax.len
  have hpay:=run_pay h.ok (nextOf_run hnr)
  obtain ⟨b1,b2⟩:=bal_paid hpay
  have hrs:=run_sz x now
  have hsz:=h.sz
  rw [run_is h.ok hnr] at hrs ⊢
  dsimp only at *
  have hsp:=amtOk_rng (partOk_spent h.ok)
  have hset:∀ k,0≤k→nth (ranPart x now).heap.arena k=if nextOf x now=k then ranMore (nth x.heap.arena (nextOf x now)) else nth x.heap.arena k:=fun k hk=>nth_set (by omega) (by omega) hk
  refine ⟨e,hnot,run_ok h.ok hnr,?_,by omega,(ran_arena h.ok hnr).1.trans h.sk,?_,?_,?_,?_,?_,rfl,?_,?_,?_,(ran_sum h.ok hnr).trans h.sum⟩
  · exact wA_set h.w (show wOk (nth x.heap.arena (nextOf x now)) from h.w _ (ax.at (by omega) (by omega)).2)
  · intro k q0 q9
    rw [hset k q0]
    split
    · rename_i ek
      rw [← ek]
      exact h.wt _ (by omega) (by omega)
    · exact h.wt k q0 q9
  · intro k q0 q9 hk
    rw [hset k q0,if_neg (fun ek=>hk (by rw [← ek,e];simp))]
    exact h.ran k q0 q9 fun q=>hk (by simp [q])
  · intro r
    exact (b1 r).trans (h.lv r)
  · intro r q0 q4
    have a:=b2 r q0 q4
    have b:=h.bal r q0 q4
    show (nth p.tree r).bal.cpu - ((i+1:Nat):Int)≤(nth (treePay x.tree (resOf x (nth x.heap.arena (nextOf x now)).res) ⟨0,0,1⟩).1 r).bal.cpu∧(nth (treePay x.tree (resOf x (nth x.heap.arena (nextOf x now)).res) ⟨0,0,1⟩).1 r).bal.cpu≤_
    omega
  · show IntKind.i64.wrap (x.spent.cpu+1)=_
    rw [wrap_ok (by omega) (by omega),h.sp]
    omega
  · show runNext (runnable p now) (nextOf x now) (-1)=_
    rw [e]
    exact next_ring (runnable_asc p now) (fun y hy=>(thr_rng (List.mem_filter.1 hy).1).1) hn (k0+i)
  · intro s hs
    rcases List.mem_append.1 hs with q | q
    · obtain ⟨j,hj,ej⟩:=h.wh s q
      exact ⟨j,by omega,ej⟩
    · rw [List.mem_singleton] at q
      exact ⟨i,by omega,q⟩
  · simp [h.wl]
theorem filter_le {α:Type} {f g:α→Bool}:∀ (T:List α),(∀ y,y ∈ T→f y=true→g y=true)→(T.filter f).length≤(T.filter g).length∧((T.filter f).length=(T.filter g).length→T.filter f=T.filter g)
  | [],_=>⟨Nat.le_refl _,fun _=>rfl⟩
  | y::T,h=>by
    obtain ⟨a,b⟩:=filter_le T fun z hz=>h z (by simp [hz])
    have hy:=h y (by simp)
    cases hf:f y <;> cases hg:g y
    · simp only [List.filter_cons,hf,hg,Bool.false_eq_true,if_false];exact ⟨a,b⟩
    · simp only [List.filter_cons,hf,hg,Bool.false_eq_true,if_false,if_true,List.length_cons]
      exact ⟨by omega,fun e=>by omega⟩
    · rw [hf,hg] at hy;simp at hy
    · simp only [List.filter_cons,hf,hg,if_true,List.length_cons]
      exact ⟨by omega,fun e=>by rw [b (by omega)]⟩
def unwant (p:DPart):DPart:=DPart.mk p.label p.own p.tree p.heap p.taps p.next 0 p.spent p.press p.lost
def pF (s:(List Int)×Int×(List Int)×(List Int)×(List DRes)×(List DObj)×Int×Int×Int×(List Int)×(List DTap)×Int×Int×Int×Int×Int×Int×Int):DPart:=DPart.mk (DLabel.mk s.2.2.1) s.2.2.2.1 s.2.2.2.2.1 (DHeap.mk s.2.2.2.2.2.1 (DGc.mk s.2.2.2.2.2.2.1 s.2.2.2.2.2.2.2.1 s.2.2.2.2.2.2.2.2.1 s.2.2.2.2.2.2.2.2.2.1)) s.2.2.2.2.2.2.2.2.2.2.1 s.2.2.2.2.2.2.2.2.2.2.2.1 s.2.2.2.2.2.2.2.2.2.2.2.2.1 (DAmt.mk s.2.2.2.2.2.2.2.2.2.2.2.2.2.1 s.2.2.2.2.2.2.2.2.2.2.2.2.2.2.1 s.2.2.2.2.2.2.2.2.2.2.2.2.2.2.2.1) s.2.2.2.2.2.2.2.2.2.2.2.2.2.2.2.2.1 s.2.2.2.2.2.2.2.2.2.2.2.2.2.2.2.2.2
theorem L_FnFair {x:List U8} (hx:Fit.fit x):∃ N,F_l_FnFair N x=some true:=by
  obtain ⟨N,hN⟩:∃ N,BIG≤N:=⟨BIG,Nat.le_refl _⟩
  suffices h:WD (F_l_FnFair N x) (fun r=>r=true) by
    obtain ⟨_,e,rfl⟩:=h
    exact ⟨N,e⟩
  unfold F_l_FnFair F_l_big
  refine WD.step rfl (WD.ite (fun _=>WD.ret rfl) fun c=>?_)
  have hl:x.length≤1048576:=by have:=of_decide_eq_false c;omega
  refine WD.bind (wd_DrawRun hN hl) fun d ⟨⟨d1,d2⟩,n0,n1⟩=>?_
  obtain ⟨p,now⟩:=d
  dsimp only at *
  have hB:(16777216:Nat)=BIG:=rfl
  have hb:sz_DPart (unwant p)<BIG:=by show sz_DPart p<BIG;omega
  have hw:wP (unwant p):=d2
  have hsz:sz_DPart (unwant p)≤20000:=d1
  have hrl:=runnable_len (unwant p) now
  refine WD.step (s_Runnable (p:=unwant p) hN hb hw now) (WD.step (s_PartSum (p:=unwant p) hN hb hw) ?_)
  have hr9:∀ y,y ∈ runnable (unwant p) now→0≤y∧y≤9:=fun y hy=>thr_rng (List.mem_filter.1 hy).1
  refine WD.bind (WD.loop (fun s=>0≤s∧s≤((runnable (unwant p) now).length:Int)∧∀ j,0≤j→j<s→((runnable (unwant p) now).length:Int)≤(balAt (unwant p) (nth (runnable (unwant p) now) j)).cpu∧(nth p.heap.arena (nth (runnable (unwant p) now) j)).ran+((runnable (unwant p) now).length:Int)≤1000000)
    (fun r=>Sum.elim (fun _=>∀ y,y ∈ runnable (unwant p) now→((runnable (unwant p) now).length:Int)≤(balAt (unwant p) y).cpu∧(nth p.heap.arena y).ran+((runnable (unwant p) now).length:Int)≤1000000) (fun b=>b=true) r) (fun s=>(((runnable (unwant p) now).length:Int) - s).toNat) ⟨Int.le_refl _,by omega,fun j h0 h1=>by omega⟩ (by omega) ?_) fun r hr=>?_
  · intro s ⟨s1,s2,s3⟩
    refine WD.ite (fun c=>?_) fun c=>WD.inr ?_
    · have c:=of_decide_eq_true c
      have hm:nth (runnable (unwant p) now) s ∈ runnable (unwant p) now:=nth_mem s1 c
      obtain ⟨y0,y9⟩:=hr9 _ hm
      have ok:=(threads_at (List.mem_filter.1 hm).1).1
      have ar:Ar p.heap.arena:=partOk_ar (p:=unwant p) ok
      have hrn:=ran_le (ar.ok _ (ar.at y0 y9).2)
      obtain ⟨r0,r4⟩:=resOf_rng (unwant p) (nth p.heap.arena (nth (runnable (unwant p) now) s)).res
      refine WD.step (idx_ok s1 c) (WD.step (ar.at y0 y9).1 (WD.bind (P:=fun j=>j=false→((runnable (unwant p) now).length:Int)≤(balAt (unwant p) (nth (runnable (unwant p) now) s)).cpu∧(nth p.heap.arena (nth (runnable (unwant p) now) s)).ran+((runnable (unwant p) now).length:Int)≤1000000) ?_ fun j hj=>WD.ite (fun _=>WD.inr rfl) fun c2=>?_))
      · refine WD.step (s_ResOf hN (unwant p) _) (WD.step (treeIdx (p:=unwant p) ok r0 r4) (WD.ite (fun _=>WD.ret (by simp)) fun c1=>WD.ret fun c2=>?_))
        rw [wrap_ok (by omega) (by omega)] at c2
        have c1:=of_decide_eq_false c1
        have c2:=of_decide_eq_false c2
        refine ⟨?_,by omega⟩
        show _≤(nth (unwant p).tree (resOf (unwant p) (nth p.heap.arena (nth (runnable (unwant p) now) s)).res)).bal.cpu
        omega
      · have hj:=hj c2
        rw [wrap_ok (n:=s+1) (by omega) (by omega)]
        refine WD.inl ⟨by omega,by omega,fun j h0 h1=>?_⟩ (by omega)
        by_cases q:j=s
        · rw [q];exact hj
        · exact s3 j h0 (by omega)
    · have c:=of_decide_eq_false c
      intro y hy
      obtain ⟨k,hk⟩:=List.getElem?_of_mem hy
      have hkl:=lt_of_some hk
      rw [← nth_of hk]
      exact s3 (k:Int) (by omega) (by omega)
  cases r with
  | inr b =>
    simp only [Sum.elim_inr] at *
    exact WD.ret hr
  | inl s =>
    simp only [Sum.elim_inl] at *
    refine WD.ite (fun _=>WD.ret rfl) fun c=>?_
    have c:=of_decide_eq_false c
    by_cases hz:(runnable (unwant p) now).length=0
    · refine WD.bind (WD.loop (fun s=>s.2.1=0) (fun r=>Sum.elim (fun _=>True) (fun b=>b=true) r) (fun _=>0) rfl (by omega) ?_) fun r hr=>?_
      · intro s hs
        refine WD.ite (fun c=>?_) fun _=>WD.inr trivial
        have c:=of_decide_eq_true c
        rw [hs,hz] at c
        exact absurd c (by decide)
      · cases r with
        | inl s =>
          simp only [Sum.elim_inl]
          exact WD.ite (fun _=>WD.ret rfl) fun q=>by rw [hz] at q;exact absurd q (by decide)
        | inr b =>
          simp only [Sum.elim_inr] at *
          exact WD.ret hr
    · have hn:0<(runnable (unwant p) now).length:=by omega
      have ok:partOk (unwant p)=true:=(threads_at (List.mem_filter.1 (ring_mem hn 0)).1).1
      have hsp:=amtOk_rng (partOk_spent ok)
      have hsp:0≤p.spent.cpu∧p.spent.cpu≤1000000:=hsp.2.2
      have hs:p.spent.cpu+((runnable (unwant p) now).length:Int)≤1000000:=by
        rw [wrap_ok (by omega) (by omega)] at c
        omega
      have hasc:=runnable_asc (unwant p) now
      obtain ⟨k0,hk0⟩:∃ k0,runNext (runnable (unwant p) now) p.next (-1)=ring (runnable (unwant p) now) (k0+0):=by
        have hm:runNext (runnable (unwant p) now) p.next (-1) ∈ runnable (unwant p) now:=by
          refine runNext_mem _ _ _ ?_
          unfold runNext
          rw [rn_asc _ (-1) (-1) hasc (fun y hy=>(hr9 y hy).1) (fun q=>absurd q (by decide)) (fun q=>absurd q (by decide)),if_neg (show ¬ (0:Int)≤-1 by decide)]
          cases hf:(runnable (unwant p) now).find? (fun y=>decide (y > p.next)) with
          | some y =>
            have:=(hr9 y (List.mem_of_find?_eq_some hf)).1
            exact decide_eq_false (by simp only;omega)
          | none =>
            simp only [if_neg (show ¬ (0:Int)≤-1 by decide)]
            cases hq:runnable (unwant p) now with
            | nil=>rw [hq] at hn;simp at hn
            | cons y m =>
              have:=(hr9 y (by rw [hq];simp)).1
              exact decide_eq_false (by simp only [List.headD_cons];omega)
        obtain ⟨k,hk⟩:=List.getElem?_of_mem hm
        have hkl:=lt_of_some hk
        refine ⟨k,?_⟩
        unfold ring
        rw [Nat.add_zero,Nat.mod_eq_of_lt hkl]
        exact (nth_of hk).symm
      have h0:Turn (unwant p) (unwant p) (runnable (unwant p) now) k0 0 []:=⟨ok,hw,by omega,rfl,fun _ _ _=>⟨rfl,rfl⟩,fun _ _ _ _=>rfl,fun _=>rfl,fun _ _ _=>⟨by omega,Int.le_refl _⟩,by omega,rfl,hk0,fun s hs=>by simp at hs,rfl,rfl⟩
      refine WD.bind (WD.loop (fun s=>∃ i:Nat,s.2.1=(i:Int)∧i≤(runnable (unwant p) now).length∧Turn (unwant p) (pF s) (runnable (unwant p) now) k0 i s.1) (fun r=>Sum.elim (fun s=>Turn (unwant p) (pF s) (runnable (unwant p) now) k0 (runnable (unwant p) now).length s.1) (fun b=>b=true) r) (fun s=>(((runnable (unwant p) now).length:Int) - s.2.1).toNat) ⟨0,rfl,by omega,h0⟩ (by dsimp only;omega) ?_) fun r hR=>?_
      · rintro ⟨who,i,l,o,t,a,ph,po,ro,g,tp,nx,wa,sp,sr,sc,pr,lo⟩ ⟨i',e,hi,hT⟩
        dsimp only [pF] at *
        subst e
        refine WD.ite (fun c=>?_) fun c=>WD.inr ?_
        · have c:=of_decide_eq_true c
          obtain ⟨e1,e2,hT'⟩:=hT.step ok (by omega) hr hs
          have hsz':=hT.sz
          refine WD.step (i_PartRun hN (by omega) now) ?_
          rw [e1]
          have hwl:=hT.wl
          have ew:who.contains (ring (runnable (unwant p) now) (k0+i'))=false:=by simpa using e2
          have el:(runnable (unwant p) now).contains (ring (runnable (unwant p) now) (k0+i'))=true:=by simpa using ring_mem hn (k0+i')
          refine WD.step (a:=false) ?_ ?_
          · rw [l_has3 hN (by omega),Option.bind_some,ew,cond_false,l_has3 hN (by omega),Option.bind_some,el]
            rfl
          · refine WD.step (appD (by omega)) ?_
            rw [wrap_ok (n:=(i':Int)+1) (by omega) (by omega)]
            exact WD.inl ⟨i'+1,by simp,by omega,hT'⟩ (by dsimp only;omega)
        · have c:=of_decide_eq_false c
          have:i'=(runnable (unwant p) now).length:=by omega
          subst this
          exact hT
      · cases r with
        | inr b =>
          simp only [Sum.elim_inr] at *
          exact WD.ret hR
        | inl s =>
          obtain ⟨who,i,l,o,t,a,ph,po,ro,g,tp,nx,wa,sp,sr,sc,pr,lo⟩:=s
          simp only [Sum.elim_inl] at *
          dsimp only [pF] at *
          have hsz':=hR.sz
          have hsp':sc=p.spent.cpu+((runnable (unwant p) now).length:Int):=hR.sp
          refine WD.ite (fun q=>absurd (by simpa using q) hz) fun _=>?_
          rw [wrap_ok (n:=p.spent.cpu+((runnable (unwant p) now).length:Int)) (by omega) (by omega),hsp',beq_self_eq_true,cond_true]
          rw [← hsp']
          refine WD.step (s_PartSum hN (by omega) hR.w) ?_
          rw [hR.sum,show decide (partSum (unwant p)=partSum (unwant p))=true from decide_eq_true rfl,cond_true]
          refine WD.step (s_PartOk hN (by omega) hR.w) ?_
          rw [hR.ok,cond_true]
          have hrun:=s_Runnable hN (by omega) hR.w now
          refine WD.step hrun ?_
          have hle:=filter_le (f:=mayRun (DPart.mk (DLabel.mk l) o t (DHeap.mk a (DGc.mk ph po ro g)) tp nx wa (DAmt.mk sp sr sc) pr lo)) (g:=mayRun (unwant p)) (threads (unwant p) now) fun y hy=>hR.less ok hy
          have e1:runnable (DPart.mk (DLabel.mk l) o t (DHeap.mk a (DGc.mk ph po ro g)) tp nx wa (DAmt.mk sp sr sc) pr lo) now=(threads (unwant p) now).filter (mayRun (DPart.mk (DLabel.mk l) o t (DHeap.mk a (DGc.mk ph po ro g)) tp nx wa (DAmt.mk sp sr sc) pr lo)):=by
            unfold runnable
            rw [thr_same ok hR.ok hR.sk]
          have e2:runnable (unwant p) now=(threads (unwant p) now).filter (mayRun (unwant p)):=rfl
          by_cases q:(runnable (DPart.mk (DLabel.mk l) o t (DHeap.mk a (DGc.mk ph po ro g)) tp nx wa (DAmt.mk sp sr sc) pr lo) now).length=(runnable (unwant p) now).length
          · have e3:runnable (DPart.mk (DLabel.mk l) o t (DHeap.mk a (DGc.mk ph po ro g)) tp nx wa (DAmt.mk sp sr sc) pr lo) now=runnable (unwant p) now:=by
              rw [e1,e2] at q ⊢
              exact hle.2 q
            rw [e3] at hrun ⊢
            refine WD.step (same3 hN (by omega)) (WD.step hrun (WD.ret ?_))
            rw [beq_self_eq_true]
            rfl
          · have hne:((runnable (DPart.mk (DLabel.mk l) o t (DHeap.mk a (DGc.mk ph po ro g)) tp nx wa (DAmt.mk sp sr sc) pr lo) now).length:Int) ≠ ((runnable (unwant p) now).length:Int):=by omega
            refine WD.step (a:=false) ?_ (WD.step hrun (WD.ret ?_))
            · unfold F_l_sameInts
              rw [show (((runnable (DPart.mk (DLabel.mk l) o t (DHeap.mk a (DGc.mk ph po ro g)) tp nx wa (DAmt.mk sp sr sc) pr lo) now).length:Int) != ((runnable (unwant p) now).length:Int))=true from by simpa using hne]
              rfl
            · rw [show (((runnable (DPart.mk (DLabel.mk l) o t (DHeap.mk a (DGc.mk ph po ro g)) tp nx wa (DAmt.mk sp sr sc) pr lo) now).length:Int)==((runnable (unwant p) now).length:Int))=false from by simpa using hne]
              rfl
end Go.Kx
