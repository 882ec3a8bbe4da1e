/- Plain laws: what is paid and paid back; who runs next. No program in sight. -/
import Derived.Test.YtkgkknholfmgiaaGreatLSum
namespace Go.Kx
open Go
set_option linter.unusedVariables false
set_option linter.unusedSimpArgs false
set_option maxRecDepth 10000
def amtOne (w n:Int):DAmt:=if w==0 then ⟨n,0,0⟩ else if w==1 then ⟨0,n,0⟩ else if w==2 then ⟨0,0,n⟩ else ⟨0,0,0⟩
theorem i_AmtOne (N:Nat) (w n:Int):F_i_AmtOne N w n=some (amtOne w n):=by
  unfold F_i_AmtOne amtOne
  cases w==0 <;> cases w==1 <;> cases w==2 <;> rfl
theorem s_AmtOne (N:Nat) (w n:Int):F_s_AmtOne N w n=some (amtOne w n):=by
  unfold F_s_AmtOne amtOne
  cases w==0 <;> cases w==1 <;> cases w==2 <;> rfl
def amtFits (a b:DAmt):Bool:=amtOk a&&(amtOk b&&(decide (a.pages≤b.pages)&&(decide (a.rent≤b.rent)&&decide (a.cpu≤b.cpu))))
theorem i_AmtFits (N:Nat) (a b:DAmt):F_i_AmtFits N a b=some (amtFits a b):=by
  unfold F_i_AmtFits amtFits
  simp only [i_AmtOk,Option.bind_some,bAnd]
theorem s_AmtFits (N:Nat) (a b:DAmt):F_s_AmtFits N a b=some (amtFits a b):=by
  unfold F_s_AmtFits amtFits
  simp only [s_AmtOk,Option.bind_some,bAnd]
def amtMinus (a b:DAmt):DAmt:=⟨IntKind.i64.wrap (a.pages - b.pages),IntKind.i64.wrap (a.rent - b.rent),IntKind.i64.wrap (a.cpu - b.cpu)⟩
def amtSub (a b:DAmt):DAmt×Bool:=if amtFits b a then (amtMinus a b,true) else (a,false)
theorem i_AmtSub (N:Nat) (a b:DAmt):F_i_AmtSub N a b=some (amtSub a b):=by
  unfold F_i_AmtSub amtSub
  rw [i_AmtFits,Option.bind_some]
  cases amtFits b a <;> rfl
theorem s_AmtSub (N:Nat) (a b:DAmt):F_s_AmtSub N a b=some (amtSub a b):=by
  unfold F_s_AmtSub amtSub
  rw [s_AmtFits,Option.bind_some]
  cases amtFits b a <;> rfl
def withBal (r:DRes) (b:DAmt):DRes:=DRes.mk r.live r.parent b
theorem nth_get {α:Type} [Dat α] {l:List α} {i:Int} (h0:0≤i) (h1:i<(l.length:Int)):l[i.toNat]?=some (nth l i):=by
  have:=idx_ok (l:=l) h0 h1
  unfold idx at this
  rwa [if_pos h0] at this
def treePay (t:List DRes) (f:Int) (a:DAmt):List DRes×Bool :=
  if treeOk t&&liveAt t f then (if amtFits a (nth t f).bal then (t.set f.toNat (withBal (nth t f) (amtMinus (nth t f).bal a)),true) else (t,false)) else (t,false)
theorem i_TreePay {N:Nat} (hN:BIG≤N) {t:List DRes} (hB:t.length<BIG) (f:Int) (a:DAmt):F_i_TreePay N t f a=some (treePay t f a):=by
  unfold F_i_TreePay treePay
  simp only [i_copyTree hB,i_TreeOk hN,Option.bind_some]
  cases ht:treeOk t
  · rfl
  have hl:=treeLen ht
  simp only [Bool.not_true,cond_false,i_isLive N hl,Option.bind_some]
  cases hv:liveAt t f
  · rfl
  obtain ⟨f0,f4⟩:=liveAt_rng hv
  simp only [Bool.not_true,cond_false,idx_ok (l:=t) f0 (by omega),i_AmtSub,Option.bind_some,Bool.and_self,if_true]
  unfold amtSub
  cases amtFits a (nth t f).bal
  · have:t.set f.toNat (DRes.mk (nth t f).live (nth t f).parent (DAmt.mk (nth t f).bal.pages (nth t f).bal.rent (nth t f).bal.cpu))=t:=set_get (nth_get f0 (by omega))
    simp only [Bool.false_eq_true,if_false]
    rw [this]
  · rfl
theorem s_TreePay {N:Nat} (hN:BIG≤N) {t:List DRes} (hB:t.length<BIG) (f:Int) (a:DAmt):F_s_TreePay N t f a=some (treePay t f a):=by
  unfold F_s_TreePay treePay
  simp only [s_l6Copy hB,s_l6Live hN,Option.bind_some]
  cases h:(treeOk t&&liveAt t f)
  · rfl
  rw [Bool.and_eq_true] at h
  have hl:=treeLen h.1
  obtain ⟨f0,f4⟩:=liveAt_rng h.2
  simp only [Bool.not_true,cond_false,idx_ok (l:=t) f0 (by omega),s_AmtSub,Option.bind_some,if_true]
  unfold amtSub
  cases amtFits a (nth t f).bal <;> rfl
theorem treePay_len (t:List DRes) (f:Int) (a:DAmt):(treePay t f a).1.length=t.length:=by
  unfold treePay
  split
  · split <;> simp
  · rfl
def rnGo (last pick:Int):Int→Int→List Int→Int
  | least,next,[]=>if decide (next ≥ 0) then next else least
  | least,next,y::l=>if decide (y<0) then rnGo last pick least next l else if y==pick then y else
      rnGo last pick (if decide (least<0) || decide (y<least) then y else least) (if decide (y > last)&&(decide (next<0) || decide (y<next)) then y else next) l
def runNext (l:List Int) (last pick:Int):Int:=rnGo last pick (-1) (-1) l
theorem rnGo_mem {last pick:Int} {P:Int→Prop}:∀ (l:List Int) (a b:Int),P a→P b→(∀ y,y ∈ l→P y)→P (rnGo last pick a b l)
  | [],a,b,ha,hb,_=>by unfold rnGo;split <;> assumption
  | y::l,a,b,ha,hb,h=>by
    have hy:=h y (by simp)
    have hl:∀ z,z ∈ l→P z:=fun z hz=>h z (by simp [hz])
    unfold rnGo
    split
    · exact rnGo_mem l a b ha hb hl
    · split
      · exact hy
      · refine rnGo_mem l _ _ ?_ ?_ hl
        · split <;> assumption
        · split <;> assumption
theorem runNext_mem (l:List Int) (last pick:Int) (h:decide (runNext l last pick<0)=false):runNext l last pick ∈ l:=by
  have:=rnGo_mem (last:=last) (pick:=pick) (P:=fun y=>y=-1∨y ∈ l) l (-1) (-1) (.inl rfl) (.inl rfl) fun y hy=>.inr hy
  rcases this with q | q
  · unfold runNext at h;rw [q] at h;simp at h
  · exact q
theorem rnLoop {N:Nat} (hN:BIG≤N) {l:List Int} (hl:l.length<BIG) (last pick:Int) {body:Int×Int×Int→Option ((Int×Int×Int)⊕((Int×Int×Int)⊕Int))}
    (hs:∀ (k:Nat) (a b y:Int),l[k]?=some y→k<l.length→body (a,b,(k:Int))=some (if decide (y<0) then .inl (a,b,((k+1:Nat):Int)) else if y==pick then .inr (.inr y) else
      .inl (if decide (a<0) || decide (y<a) then y else a,if decide (y > last)&&(decide (b<0) || decide (y<b)) then y else b,((k+1:Nat):Int)))) (he:∀ a b,body (a,b,(l.length:Int))=some (.inr (.inl (a,b,(l.length:Int))))) :
    (iter body N (-1, -1,0)).bind (fun o29=>Sum.elim (fun o29=>bif (decide (o29.2.1 ≥ 0)) then (some o29.2.1) else (some o29.1)) (fun r33=>some r33) o29)=some (runNext l last pick):=by
  rw [show ((-1:Int),(-1:Int),(0:Int))=(fun (k:Nat) (t:Int×Int)=>(t.1,t.2,(k:Int))) 0 (-1, -1) from rfl,
    iter_list l (fun (k:Nat) (t:Int×Int)=>(t.1,t.2,(k:Int))) (fun _ t y=>if decide (y<0) then .inl t else if y==pick then .inr (.inr y) else .inl (if decide (t.1<0) || decide (y<t.1) then y else t.1,if decide (y > last)&&(decide (t.2<0) || decide (y<t.2)) then y else t.2)) (fun t=>.inl (t.1,t.2,(l.length:Int))) (fun _ _=>True) ?_ ?_ (Nat.lt_of_lt_of_le hl hN) trivial]
  · simp only [Option.bind_some]
    have key:∀ (m:List Int) (k:Nat) (t:Int×Int),Sum.elim (fun (o29:Int×Int×Int)=>bif (decide (o29.2.1 ≥ 0)) then (some o29.2.1) else (some o29.1)) (fun r33=>some r33) (runL (ρ:=(Int×Int×Int)⊕Int) (fun _ t y=>if decide (y<0) then .inl t else if y==pick then .inr (.inr y) else .inl (if decide (t.1<0) || decide (y<t.1) then y else t.1,if decide (y > last)&&(decide (t.2<0) || decide (y<t.2)) then y else t.2)) (fun t=>.inl (t.1,t.2,(l.length:Int))) k t m)=some (rnGo last pick t.1 t.2 m):=by
      intro m
      induction m with
      | nil =>
        intro k t
        unfold runL rnGo
        simp only [Sum.elim_inl]
        cases decide (t.2 ≥ 0) <;> rfl
      | cons y m ih =>
        intro k t
        unfold runL rnGo
        cases decide (y<0)
        · cases y==pick
          · exact ih (k+1) _
          · rfl
        · exact ih (k+1) t
    exact key l 0 (-1, -1)
  · intro k t y hy hk _
    refine ⟨?_,fun _ _=>trivial⟩
    rw [hs k t.1 t.2 y hy hk]
    cases decide (y<0)
    · cases y==pick <;> rfl
    · rfl
  · intro t _
    exact he t.1 t.2
theorem i_RunNext {N:Nat} (hN:BIG≤N) {l:List Int} (hl:l.length<BIG) (last pick:Int):F_i_RunNext N l last pick=some (runNext l last pick):=by
  unfold F_i_RunNext
  refine rnLoop hN hl last pick ?_ ?_
  · intro k a b y hy hk
    simp only [lt_dec hk,cond_true,idx_nat,hy,Option.bind_some,wrap1 (Nat.lt_trans hk hl)]
    cases decide (y<0) <;> cases y==pick <;> cases decide (a<0) <;> cases decide (y<a) <;> cases decide (y > last) <;> cases decide (b<0) <;> cases decide (y<b) <;> rfl
  · intro a b
    simp only [ge_dec,cond_false]
theorem s_RunNext {N:Nat} (hN:BIG≤N) {l:List Int} (hl:l.length<BIG) (last pick:Int):F_s_RunNext N l last pick=some (runNext l last pick):=by
  unfold F_s_RunNext
  refine rnLoop hN hl last pick ?_ ?_
  · intro k a b y hy hk
    simp only [lt_dec hk,cond_true,idx_nat,hy,Option.bind_some,wrap1 (Nat.lt_trans hk hl)]
    cases h1:decide (y<0)
    · cases h2:y==pick
      · cases decide (a<0) <;> cases decide (y<a) <;> cases decide (y > last) <;> cases decide (b<0) <;> cases decide (y<b) <;> rfl
      · have:y=pick:=by simpa using h2
        rw [this];rfl
    · rfl
  · intro a b
    simp only [ge_dec,cond_false]
def ranMore (o:DObj):DObj:=DObj.mk o.gen o.kind o.box o.res o.til o.pages o.wait o.got (IntKind.i64.wrap (o.ran+1)) o.mark o.links o.data o.queue
def nextOf (p:DPart) (now:Int):Int:=runNext (runnable p now) p.next (IntKind.i64.wrap (p.want - 1))
def noRun (p:DPart) (now:Int):Bool:=decide (nextOf p now<0) || (decide (p.spent.cpu ≥ 1000000) || decide ((nth p.heap.arena (nextOf p now)).ran ≥ 1000000))
def partRun (p:DPart) (now:Int):DPart×Int :=
  if partOk p then
    (if noRun p now then (DPart.mk p.label p.own p.tree p.heap p.taps p.next 0 p.spent p.press p.lost, -1) else
      (DPart.mk p.label p.own (treePay p.tree (resOf p (nth p.heap.arena (nextOf p now)).res) ⟨0,0,1⟩).1 (DHeap.mk (p.heap.arena.set (nextOf p now).toNat (ranMore (nth p.heap.arena (nextOf p now)))) p.heap.gc) p.taps (nextOf p now) 0
        (DAmt.mk p.spent.pages p.spent.rent (IntKind.i64.wrap (p.spent.cpu+1))) p.press p.lost,nextOf p now))
  else (p, -1)
theorem nextOf_at {p:DPart} {now:Int} (h:decide (nextOf p now<0)=false):partOk p=true∧0≤nextOf p now∧nextOf p now≤9:=by
  have:=runNext_mem _ _ _ h
  unfold runnable at this
  exact threads_rng (List.mem_filter.1 this).1
theorem ran_le {o:DObj} (h:objOk o=true):0≤o.ran∧o.ran≤1000000:=by
  unfold objOk at h
  cases hk:o.kind==0
  · simp only [hk,cond_false,Bool.and_eq_true] at h
    have h:=h.2.2.2.2.2.2.2
    cases h4:o.kind != 4
    · rw [h4] at h
      simp only [cond_false,Bool.and_eq_true] at h
      exact inR_iff.1 h.2.2
    · rw [h4] at h
      simp only [cond_true,Bool.and_eq_true,beq_iff_eq] at h
      omega
  · simp only [hk,cond_true,Bool.and_eq_true,decide_eq_true_eq] at h
    rw [h.2.2]
    exact ⟨Int.le_refl _,by show (0:Int)≤1000000;decide⟩
theorem eq_max {n:Int} (h:n≤1000000):(n==1000000)=decide (n ≥ 1000000):=by
  rw [Bool.eq_iff_iff];simp;omega
theorem amtOk_rng {a:DAmt} (h:amtOk a=true):(0≤a.pages∧a.pages≤1000000)∧(0≤a.rent∧a.rent≤1000000)∧(0≤a.cpu∧a.cpu≤1000000):=by
  unfold amtOk okA at h
  simpa only [Bool.and_eq_true,inR_iff] using h
theorem partOk_spent {p:DPart} (h:partOk p=true):amtOk p.spent=true:=by
  unfold partOk restOk at h
  simp only [Bool.and_eq_true] at h
  exact h.2.2.2.2.2.2.2.2.1
theorem i_PartRun {N:Nat} (hN:BIG≤N) {p:DPart} (hb:sz_DPart p<BIG) (now:Int):F_i_PartRun N p now=some (partRun p now):=by
  have hr:(runnable p now).length<BIG:=Nat.lt_of_le_of_lt (runnable_len p now) (by decide)
  unfold F_i_PartRun partRun
  simp only [i_copyPart hN hb,i_PartOk hN hb,i_Runnable hN hb,i_RunNext hN hr,Option.bind_some]
  cases hp:partOk p
  · rfl
  simp only [Bool.not_true,cond_false,if_true]
  rw [show runNext (runnable p now) p.next (IntKind.i64.wrap (p.want - 1))=nextOf p now from rfl]
  unfold noRun
  have hsp:=amtOk_rng (partOk_spent hp)
  cases hn:decide (nextOf p now<0)
  · obtain ⟨_,n0,n9⟩:=nextOf_at hn
    obtain ⟨e1,e2⟩:=(partOk_ar hp).at n0 n9
    have hran:=ran_le ((partOk_ar hp).ok _ e2)
    simp only [cond_false,e1,Option.bind_some,eq_max hsp.2.2.2,eq_max hran.2,i_AmtOne,i_ResOf hN,i_TreePay hN (szPart hb).2.2.1,i_sumOf,Bool.false_or]
    cases decide (p.spent.cpu ≥ 1000000)
    · cases decide ((nth p.heap.arena (nextOf p now)).ran ≥ 1000000)
      · have ea:amtSum p.spent (amtOne 2 1)=DAmt.mk p.spent.pages p.spent.rent (IntKind.i64.wrap (p.spent.cpu+1)):=by
          show DAmt.mk (IntKind.i64.wrap (p.spent.pages+0)) (IntKind.i64.wrap (p.spent.rent+0)) (IntKind.i64.wrap (p.spent.cpu+1))=_
          rw [wrap_ok (n:=p.spent.pages+0) (by omega) (by omega),wrap_ok (n:=p.spent.rent+0) (by omega) (by omega),Int.add_zero,Int.add_zero]
        rw [ea];rfl
      · rfl
    · rfl
  · rfl
theorem run_sz (p:DPart) (now:Int):sz_DPart (partRun p now).1≤sz_DPart p+100:=by
  unfold partRun
  split
  · rename_i hp
    split
    · exact Nat.le_add_right _ _
    · rename_i hn
      unfold noRun at hn
      simp only [Bool.or_eq_true,not_or,Bool.not_eq_true] at hn
      obtain ⟨_,n0,n9⟩:=nextOf_at hn.1
      have h1:=objOk_sz ((partOk_ar hp).ok _ ((partOk_ar hp).at n0 n9).2)
      have h2:szL sz_DObj (p.heap.arena.set (nextOf p now).toNat (ranMore (nth p.heap.arena (nextOf p now))))≤szL sz_DObj p.heap.arena+12:=Nat.le_trans szL_set (Nat.add_le_add_left h1 _)
      have h3:=treePay_len p.tree (resOf p (nth p.heap.arena (nextOf p now)).res) ⟨0,0,1⟩
      unfold sz_DPart sz_DHeap
      simp only [h3]
      omega
  · exact Nat.le_add_right _ _
end Go.Kx
/- Plain laws: what is freed, shaded, swept; a collector's step. No program in sight. -/
namespace Go.Kx
open Go
set_option linter.unusedVariables false
set_option linter.unusedSimpArgs false
set_option maxRecDepth 10000
def unl1 (i:Int) (x:Int):Int:=if x==i then -1 else x
def unl (i:Int) (o:DObj):DObj:=if o.kind==0 then o else DObj.mk o.gen o.kind (if o.box==i then -1 else o.box) o.res o.til o.pages o.wait o.got o.ran o.mark (o.links.map (unl1 i)) o.data o.queue
def arenaFree (l:List DObj) (i:Int):List DObj×Bool:=if arenaOk l&&(inR i 1 9&&((nth l i).kind != 0)) then ((l.set i.toNat (blank (nth l i).gen)).map (unl i),true) else (l,false)
theorem freed_ok {l:List DObj} (h:Ar l) {i g:Int} {k:Nat} {y:DObj} (hy:(l.set i.toNat (blank g))[k]?=some y) (hk:(y.kind==0)=false):objOk y=true:=by
  rcases List.mem_or_eq_of_mem_set (List.mem_of_getElem? hy) with q | q
  · exact h.ok y q
  · rw [q] at hk;simp [blank] at hk
theorem objOk_two {o:DObj} (h:objOk o=true) (hk:(o.kind==0)=false):o.links.length=2:=by
  unfold objOk at h
  simp only [hk,cond_false,Bool.and_eq_true] at h
  obtain ⟨_,_,_,_,_,_,hl,_⟩:=h
  unfold listsOk at hl
  simp only [Bool.and_eq_true,beq_iff_eq] at hl
  omega
theorem s_ArenaFree {N:Nat} (hN:BIG≤N) {l:List DObj} (hb:szL sz_DObj l<BIG) (hw:wA l) (i:Int):F_s_ArenaFree N l i=some (arenaFree l i):=by
  unfold F_s_ArenaFree arenaFree
  simp only [s_l8Copy hN hb,s_ArenaOk hN hb hw,s_in,Option.bind_some]
  cases ha:arenaOk l
  · rfl
  have h:=arenaOk_iff.1 ha
  cases hi:inR i 1 9
  · rfl
  have hr:=inR_iff.1 hi
  simp only [Bool.not_true,cond_false,(h.at (i:=i) (by omega) hr.2).1,Option.bind_some,bne,Bool.true_and]
  cases hk:(nth l i).kind==0
  · simp only [cond_false,Bool.not_false,if_true]
    rw [show DObj.mk (nth l i).gen 0 0 0 0 0 0 0 0 false [] [] []=blank (nth l i).gen from rfl]
    have hlen:(l.set i.toNat (blank (nth l i).gen)).length=l.length:=List.length_set
    rw [iter_map (l.set i.toNat (blank (nth l i).gen)) (unl i) (by rw [hlen];exact Nat.lt_of_lt_of_le h.lenB hN)]
    · rfl
    · intro k t y ht hty hy hkl
      have hk10:k<10:=by rw [hlen,h.len] at hkl;exact hkl
      have hkt:k<t.length:=lt_of_some hty
      simp only [lt_dec hkt,cond_true,idx_nat,hty,Option.bind_some,wrap1 (show k<BIG from Nat.lt_trans hk10 (by decide))]
      unfold unl
      cases hyk:y.kind==0
      · have ho:=freed_ok h hy hyk
        have h2:=objOk_two ho hyk
        simp only [cond_false,Bool.false_eq_true,if_false]
        have inner:∀ (t2:List DObj) (z:DObj),t2.length=t.length→t2[k]?=some z→z.links.length=2→iter (fun (s90:(List DObj)×Int)=>(bif (decide (s90.2<2)) then ((idx s90.1 (k:Int)).bind fun y93=>(idx y93.links s90.2).bind fun y115=>bif (y115==i) then (some (.inl ((s90.1.set (k:Int).toNat (DObj.mk y93.gen y93.kind y93.box y93.res y93.til y93.pages y93.wait y93.got y93.ran y93.mark (y93.links.set (s90.2:Int).toNat (-1)) y93.data y93.queue)),IntKind.i64.wrap (s90.2+1)))) else (some (.inl (s90.1,IntKind.i64.wrap (s90.2+1))))) else (some (.inr (s90.1,s90.2))):Option (((List DObj)×Int)⊕((List DObj)×Int)))) N (t2,0) =
            some (t2.set k (DObj.mk z.gen z.kind z.box z.res z.til z.pages z.wait z.got z.ran z.mark (z.links.map (unl1 i)) z.data z.queue),2):=by
          intro t2 z hl2 hz hz2
          have hk2:k<t2.length:=by omega
          obtain ⟨a,b,hab⟩:∃ a b,z.links=[a,b]:=by
            match hq:z.links with
            | []=>simp [hq] at hz2
            | [a]=>simp [hq] at hz2
            | [a,b]=>exact ⟨a,b,rfl⟩
            | a::b::c::r=>simp [hq] at hz2
          obtain ⟨M,rfl⟩:∃ M,N=M+3:=⟨N - 3,by have:16777216≤N:=hN;omega⟩
          have hset:∀ u:DObj,(t2.set k u)[k]?=some u:=fun u=>List.getElem?_set_self hk2
          have hid:t2.set k (DObj.mk z.gen z.kind z.box z.res z.til z.pages z.wait z.got z.ran z.mark [a,b] z.data z.queue)=t2:=by rw [← hab];exact set_get hz
          have w1:IntKind.i64.wrap (0+1)=1:=by decide
          have w2:IntKind.i64.wrap (1+1)=2:=by decide
          unfold iter
          simp only [show decide ((0:Int)<2)=true from rfl,cond_true,idx_nat,hz,Option.bind_some,hab,show idx [a,b] 0=some a from rfl,w1,Int.toNat_natCast]
          cases hA:a==i
          · simp only [cond_false,Option.bind_some]
            unfold iter
            simp only [show decide ((1:Int)<2)=true from rfl,cond_true,idx_nat,hz,Option.bind_some,hab,show idx [a,b] 1=some b from rfl,w2,Int.toNat_natCast]
            cases hB:b==i
            · simp only [cond_false,Option.bind_some]
              unfold iter
              simp [unl1,hA,hB,hid]
            · simp only [cond_true,Option.bind_some]
              unfold iter
              simp [unl1,hA,hB]
          · simp only [cond_true,Option.bind_some]
            unfold iter
            simp only [show decide ((1:Int)<2)=true from rfl,cond_true,idx_nat,hset,Option.bind_some,w2,Int.toNat_natCast]
            rw [show idx ([a,b].set (0:Int).toNat (-1)) 1=some b from rfl]
            simp only [Option.bind_some]
            cases hB:b==i
            · simp only [cond_false,Option.bind_some]
              unfold iter
              simp [unl1,hA,hB]
            · simp only [cond_true,Option.bind_some,List.set_set]
              unfold iter
              simp [unl1,hA,hB]
        simp only [idx_nat,Int.toNat_natCast] at inner ⊢
        cases hbx:y.box==i
        · simp only [cond_false,Option.bind_some,Bool.false_eq_true,if_false]
          rw [inner t y rfl hty h2];rfl
        · simp only [cond_true,Option.bind_some,Int.toNat_natCast,if_true]
          have e:=inner (t.set k (DObj.mk y.gen y.kind (-1) y.res y.til y.pages y.wait y.got y.ran y.mark y.links y.data y.queue)) (DObj.mk y.gen y.kind (-1) y.res y.til y.pages y.wait y.got y.ran y.mark y.links y.data y.queue) List.length_set (List.getElem?_set_self hkt) h2
          rw [e]
          simp only [Option.bind_some,List.set_set]
      · simp only [cond_true,if_true]
        rw [set_get hty]
    · intro t ht
      rw [← ht]
      simp only [ge_dec,cond_false]
  · rfl
def treeBack (t:List DRes) (f:Int) (a:DAmt):List DRes×Bool :=
  if treeOk t&&(amtOk a&&amtOk (amtSum (treeSum t) a)) then
    (t.set (if liveAt t f then f else 0).toNat (withBal (nth t (if liveAt t f then f else 0)) (amtSum (nth t (if liveAt t f then f else 0)).bal a)),true)
  else (t,false)
theorem treeBack_len (t:List DRes) (f:Int) (a:DAmt):(treeBack t f a).1.length=t.length:=by
  unfold treeBack
  split <;> simp
theorem okA_iff {n:Int}:okA n=true ↔ 0≤n∧n≤1000000:=inR_iff
theorem amtOk_iff {a:DAmt}:amtOk a=true ↔ (0≤a.pages∧a.pages≤1000000)∧(0≤a.rent∧a.rent≤1000000)∧(0≤a.cpu∧a.cpu≤1000000):=by
  unfold amtOk;simp only [Bool.and_eq_true,okA_iff]
theorem sumLive_ge:∀ (t:List DRes) (s:DAmt) (B:Int),(∀ r,r ∈ t→amtOk r.bal=true)→0≤B→B+1000000 * (t.length:Int)≤1000000000→(0≤s.pages∧s.pages≤B)→(0≤s.rent∧s.rent≤B)→(0≤s.cpu∧s.cpu≤B) →
    (s.pages≤(sumLive s t).pages∧s.rent≤(sumLive s t).rent∧s.cpu≤(sumLive s t).cpu) ∧
      ∀ r,r ∈ t→r.live=true→r.bal.pages≤(sumLive s t).pages∧r.bal.rent≤(sumLive s t).rent∧r.bal.cpu≤(sumLive s t).cpu
  | [],s,B,_,_,_,_,_,_=>⟨⟨Int.le_refl _,Int.le_refl _,Int.le_refl _⟩,fun r hr=>by simp at hr⟩
  | r::t,s,B,h,hB,hL,h1,h2,h3=>by
    have hr:=amtOk_iff.1 (h r (by simp))
    simp only [List.length_cons] at hL
    have e:sumLive s (r::t)=sumLive (if r.live then amtSum s r.bal else s) t:=rfl
    rw [e]
    cases hv:r.live
    · obtain ⟨q1,q2⟩:=sumLive_ge t s B (fun x hx=>h x (by simp [hx])) hB (by omega) h1 h2 h3
      refine ⟨q1,fun x hx hl=>?_⟩
      rcases List.mem_cons.1 hx with rfl | hx
      · rw [hv] at hl;cases hl
      · exact q2 x hx hl
    · simp only [if_true]
      have w1:(amtSum s r.bal).pages=s.pages+r.bal.pages:=wrap_ok (by omega) (by omega)
      have w2:(amtSum s r.bal).rent=s.rent+r.bal.rent:=wrap_ok (by omega) (by omega)
      have w3:(amtSum s r.bal).cpu=s.cpu+r.bal.cpu:=wrap_ok (by omega) (by omega)
      obtain ⟨⟨a1,a2,a3⟩,q2⟩:=sumLive_ge t (amtSum s r.bal) (B+1000000) (fun x hx=>h x (by simp [hx])) (by omega) (by omega) (by omega) (by omega) (by omega)
      refine ⟨⟨by omega,by omega,by omega⟩,fun x hx hl=>?_⟩
      rcases List.mem_cons.1 hx with rfl | hx
      · exact ⟨by omega,by omega,by omega⟩
      · exact q2 x hx hl
theorem back_fits {t:List DRes} (h:Tr t) {a:DAmt} (ha:amtOk a=true) (hs:amtOk (amtSum (sumLive ⟨0,0,0⟩ t) a)=true) {i:Int} (hi:0≤i∧i≤4) (hv:(nth t i).live=true):amtAdd (nth t i).bal a=(amtSum (nth t i).bal a,true):=by
  have hl:=h.len
  have hm:nth t i ∈ t:=nth_mem hi.1 (by omega)
  obtain ⟨_,q⟩:=sumLive_ge t ⟨0,0,0⟩ 0 h.bal (by omega) (by omega) ⟨by decide,by decide⟩ ⟨by decide,by decide⟩ ⟨by decide,by decide⟩
  obtain ⟨q1,q2,q3⟩:=q _ hm hv
  have hb:=amtOk_iff.1 (h.bal _ hm)
  have ha':=amtOk_iff.1 ha
  have hS:=amtOk_iff.1 h.sum
  have w1:(amtSum (sumLive ⟨0,0,0⟩ t) a).pages=(sumLive ⟨0,0,0⟩ t).pages+a.pages:=wrap_ok (by omega) (by omega)
  have w2:(amtSum (sumLive ⟨0,0,0⟩ t) a).rent=(sumLive ⟨0,0,0⟩ t).rent+a.rent:=wrap_ok (by omega) (by omega)
  have w3:(amtSum (sumLive ⟨0,0,0⟩ t) a).cpu=(sumLive ⟨0,0,0⟩ t).cpu+a.cpu:=wrap_ok (by omega) (by omega)
  have hs':=amtOk_iff.1 hs
  have v1:(amtSum (nth t i).bal a).pages=(nth t i).bal.pages+a.pages:=wrap_ok (by omega) (by omega)
  have v2:(amtSum (nth t i).bal a).rent=(nth t i).bal.rent+a.rent:=wrap_ok (by omega) (by omega)
  have v3:(amtSum (nth t i).bal a).cpu=(nth t i).bal.cpu+a.cpu:=wrap_ok (by omega) (by omega)
  have:amtOk (amtSum (nth t i).bal a)=true:=amtOk_iff.2 ⟨by omega,by omega,by omega⟩
  unfold amtAdd
  rw [h.bal _ hm,ha,this];rfl
theorem s_TreeBack {N:Nat} (hN:BIG≤N) {t:List DRes} (hB:t.length<BIG) (f:Int) (a:DAmt):F_s_TreeBack N t f a=some (treeBack t f a):=by
  unfold F_s_TreeBack treeBack
  simp only [s_l6Copy hB,s_TreeOk hN,s_l6Sum hN hB,s_AmtAdd,s_l6Live hN,Option.bind_some]
  cases ht:treeOk t
  · rfl
  have hT:=treeOk_iff.1 ht
  have hl:=hT.len
  have e:(amtAdd (sumLive ⟨0,0,0⟩ t) a).2=(amtOk a&&amtOk (amtSum (treeSum t) a)):=by
    unfold amtAdd treeSum
    rw [hT.sum,ht]
    simp only [if_true,Bool.true_and]
    cases amtOk a&&amtOk (amtSum (sumLive ⟨0,0,0⟩ t) a) <;> rfl
  rw [e]
  simp only [Bool.not_true,cond_false,Bool.true_and]
  cases hc:(amtOk a&&amtOk (amtSum (treeSum t) a))
  · rfl
  rw [Bool.and_eq_true] at hc
  have hs:amtOk (amtSum (sumLive ⟨0,0,0⟩ t) a)=true:=by
    have:=hc.2
    unfold treeSum at this
    rwa [ht,if_pos rfl] at this
  simp only [Bool.not_true,cond_false,if_true]
  cases hv:liveAt t f
  · simp only [Bool.not_false,cond_true,Option.bind_some,idx_ok (l:=t) (i:=0) (by omega) (by omega),back_fits hT hc.1 hs (i:=0) ⟨by omega,by omega⟩ hT.live0,Bool.false_eq_true,if_false];rfl
  · obtain ⟨f0,f4⟩:=liveAt_rng hv
    have hlv:(nth t f).live=true:=by unfold liveAt at hv;rw [Bool.and_eq_true] at hv;exact hv.2
    simp only [Bool.not_true,cond_false,Option.bind_some,idx_ok (l:=t) f0 (by omega),back_fits hT hc.1 hs (i:=f) ⟨f0,f4⟩ hlv,if_true];rfl
end Go.Kx
/- Plain laws: taps. No program in sight. -/
namespace Go.Kx
open Go
set_option linter.unusedVariables false
set_option linter.unusedSimpArgs false
set_option maxRecDepth 10000
def amtPart (a:DAmt) (w:Int):Int:=if w==0 then a.pages else if w==1 then a.rent else if w==2 then a.cpu else 0
theorem s_AmtPart (N:Nat) (a:DAmt) (w:Int):F_s_AmtPart N a w=some (amtPart a w):=by
  unfold F_s_AmtPart amtPart
  cases w==0 <;> cases w==1 <;> cases w==2 <;> rfl
end Go.Kx
