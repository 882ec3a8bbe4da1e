/- Plain laws: what is split off, given and dropped in a tree. No program in sight. -/
import Derived.Test.YtkgkknholfmgiaaGreatLCollect
import Derived.Test.YtkgkknholfmgiaaGreatLPay
namespace Go.Kx
open Go
set_option linter.unusedVariables false
set_option linter.unusedSimpArgs false
set_option maxRecDepth 10000
theorem pay_good {t:List DRes} {f:Int} {a:DAmt} (h:(treePay t f a).2=true):treeOk t=true∧liveAt t f=true:=by
  unfold treePay at h
  split at h
  · rename_i q
    simpa using q
  · cases h
theorem pay_live (t:List DRes) (f:Int) (a:DAmt):(treePay t f a).1.map DRes.live=t.map DRes.live:=by
  unfold treePay
  split
  · rename_i q
    simp only [Bool.and_eq_true] at q
    obtain ⟨f0,f4⟩:=liveAt_rng q.2
    have hl:=treeLen q.1
    split
    · rw [List.map_set]
      refine set_get ?_
      rw [List.getElem?_map,nth_get f0 (by omega)]
      rfl
    · rfl
  · rfl
def freeK:Nat→List Bool→Option Nat
  | _,[]=>none
  | k,b::l=>if b then freeK (k+1) l else some k
theorem freeRun {ρ:Type} (g:Nat→ρ) (r:ρ):∀ (l:List DRes) (k:Nat),runL (fun k (_:Unit) (y:DRes)=>if y.live then .inl () else .inr (g k)) (fun _=>r) k () l=(match freeK k (l.map DRes.live) with | none=>r | some k=>g k)
  | [],k=>rfl
  | y::l,k=>by
    unfold runL
    simp only [List.map_cons,freeK]
    cases y.live
    · rfl
    · exact freeRun g r l (k+1)
theorem freeLoop {ρ:Type} {N:Nat} (hN:BIG≤N) {x:List DRes} (hx:x.length<BIG) (g:Nat→ρ) (r:ρ) {body:Int→Option (Int⊕ρ)}
    (hs:∀ (k:Nat) (y:DRes),x[k]?=some y→k<x.length→body (k:Int)=some (if y.live then .inl ((k+1:Nat):Int) else .inr (g k))) (he:body (x.length:Int)=some (.inr r)) :
    iter body N 0=some (match freeK 0 (x.map DRes.live) with | none=>r | some k=>g k):=by
  rw [show (0:Int)=(fun (k:Nat) (_:Unit)=>(k:Int)) 0 () from rfl,
    iter_list x (fun (k:Nat) (_:Unit)=>(k:Int)) (fun k _ y=>if y.live then .inl () else .inr (g k)) (fun _=>r) (fun _ _=>True) ?_ ?_ (Nat.lt_of_lt_of_le hx hN) trivial,freeRun]
  · intro k _ y hy hk _
    refine ⟨?_,fun _ _=>trivial⟩
    show body (k:Int)=_
    rw [hs k y hy hk]
    cases y.live <;> rfl
  · intro _ _
    exact he
def treeSplit (t:List DRes) (f:Int) (a:DAmt):List DRes×Int×Bool :=
  if (treePay t f a).2 then (match freeK 0 (t.map DRes.live) with | none=>(t,0,false) | some k=>((treePay t f a).1.set k (DRes.mk true f a),(k:Int),true)) else (t,0,false)
theorem treeSplit_len (t:List DRes) (f:Int) (a:DAmt):(treeSplit t f a).1.length=t.length:=by
  unfold treeSplit
  split
  · split
    · rfl
    · simp only [List.length_set,treePay_len]
  · rfl
theorem s_TreeSplit {N:Nat} (hN:BIG≤N) {t:List DRes} (hB:t.length<BIG) (f:Int) (a:DAmt):F_s_TreeSplit N t f a=some (treeSplit t f a):=by
  unfold F_s_TreeSplit treeSplit
  simp only [s_TreePay hN hB,Option.bind_some]
  cases h:(treePay t f a).2
  · simp only [Bool.not_false,cond_true,s_l6Copy hB,Option.bind_some,Bool.false_eq_true,if_false]
  have hp:=treePay_len t f a
  simp only [Bool.not_true,cond_false,if_true]
  rw [freeLoop (x:=(treePay t f a).1) hN (by omega) (fun k=>Sum.inr ((treePay t f a).1.set k (DRes.mk true f a),(k:Int),true)) (Sum.inl ((treePay t f a).1.length:Int)),pay_live]
  · simp only [Option.bind_some]
    cases freeK 0 (t.map DRes.live)
    · simp only [Sum.elim_inl,s_l6Copy hB,Option.bind_some]
    · rfl
  · intro k y hy hk
    simp only [lt_dec hk,cond_true,idx_nat,hy,Option.bind_some,wrap1 (show k<BIG by omega),Int.toNat_natCast]
    cases y.live <;> rfl
  · simp only [ge_dec,cond_false]
def treeGive (t:List DRes) (f g:Int) (a:DAmt):List DRes×Bool:=if (treePay t f a).2&&liveAt t g then treeBack (treePay t f a).1 g a else (t,false)
theorem treeGive_len (t:List DRes) (f g:Int) (a:DAmt):(treeGive t f g a).1.length=t.length:=by
  unfold treeGive
  split
  · rw [treeBack_len,treePay_len]
  · rfl
theorem s_TreeGive {N:Nat} (hN:BIG≤N) {t:List DRes} (hB:t.length<BIG) (f g:Int) (a:DAmt):F_s_TreeGive N t f g a=some (treeGive t f g a):=by
  unfold F_s_TreeGive treeGive
  have hp:=treePay_len t f a
  simp only [s_l6Live hN,s_TreePay hN hB,Option.bind_some]
  cases h:(treePay t f a).2
  · cases treeOk t&&liveAt t g <;> simp only [Bool.not_false,Bool.not_true,cond_true,cond_false,s_l6Copy hB,Option.bind_some,Bool.false_and,Bool.false_eq_true,if_false]
  rw [(pay_good h).1]
  simp only [Bool.true_and]
  cases liveAt t g
  · simp only [Bool.not_false,cond_true,s_l6Copy hB,Option.bind_some,Bool.false_eq_true,if_false]
  · simp only [Bool.not_true,cond_false,if_true,s_TreeBack hN (show (treePay t f a).1.length<BIG by omega),Option.bind_some]
theorem up_rng {t:List DRes} (h:Tr t) {i:Int} (hv:liveAt t i=true) (hi:i ≠ 0):0≤up t i∧up t i≤4∧up t i ≠ i∧(nth t (up t i)).live=true:=by
  obtain ⟨i0,i4⟩:=liveAt_rng hv
  have hl:=h.len
  have hg:=nth_get (l:=t) i0 (by omega)
  have hlv:(nth t i).live=true:=by
    unfold liveAt at hv
    simp only [Bool.and_eq_true] at hv
    exact hv.2
  have h1:=h.lead i.toNat (nth t i) hg hlv
  rw [show ((i.toNat:Nat):Int)=i by omega] at h1
  have hne:up t i ≠ i:=fun q=>by rw [leads_no hi q] at h1;cases h1
  have h2:leads t 4 (up t i)=true:=by
    unfold leads at h1
    simpa [hi,hv] using h1
  by_cases hu:up t i=0
  · rw [hu]
    exact ⟨by omega,by omega,fun q=>hi q.symm,h.live0⟩
  · unfold leads at h2
    have h3:liveAt t (up t i)=true:=by
      cases q:liveAt t (up t i)
      · simp [hu,q] at h2
      · rfl
    obtain ⟨a,b⟩:=liveAt_rng h3
    unfold liveAt at h3
    simp only [Bool.and_eq_true] at h3
    exact ⟨a,b,hne,h3.2⟩
def inB (s:DAmt) (B:Int):Prop:=(0≤s.pages∧s.pages≤B)∧(0≤s.rent∧s.rent≤B)∧(0≤s.cpu∧s.cpu≤B)
theorem amtSum_in {s a:DAmt} {B:Int} (hs:inB s B) (ha:amtOk a=true) (hB:B≤1000000000):(amtSum s a).pages=s.pages+a.pages∧(amtSum s a).rent=s.rent+a.rent∧(amtSum s a).cpu=s.cpu+a.cpu∧inB (amtSum s a) (B+1000000):=by
  have h:=amtOk_iff.1 ha
  unfold inB at hs
  have w1:(amtSum s a).pages=s.pages+a.pages:=wrap_ok (by omega) (by omega)
  have w2:(amtSum s a).rent=s.rent+a.rent:=wrap_ok (by omega) (by omega)
  have w3:(amtSum s a).cpu=s.cpu+a.cpu:=wrap_ok (by omega) (by omega)
  exact ⟨w1,w2,w3,⟨by omega,by omega⟩,⟨by omega,by omega⟩,⟨by omega,by omega⟩⟩
theorem live_add:∀ (t:List DRes) (s:DAmt) (B:Int),(∀ r,r ∈ t→amtOk r.bal=true)→0≤B→B+1000000 * (t.length:Int)≤1000000000→inB s B→∀ (k:Nat) (r:DRes),t[k]?=some r→r.live=true →
    s.pages+r.bal.pages≤(sumLive s t).pages∧s.rent+r.bal.rent≤(sumLive s t).rent∧s.cpu+r.bal.cpu≤(sumLive s t).cpu
  | [],s,B,_,_,_,_,k,r,hr,_=>by simp at hr
  | x::t,s,B,h,hB,hL,hs,k,r,hr,hv=>by
    have hx:=h x (by simp)
    simp only [List.length_cons] at hL
    obtain ⟨w1,w2,w3,w4⟩:=amtSum_in hs hx (by omega)
    have hx':=amtOk_iff.1 hx
    have e:sumLive s (x::t)=sumLive (if x.live then amtSum s x.bal else s) t:=rfl
    rw [e]
    have ht:∀ r,r ∈ t→amtOk r.bal=true:=fun r hr=>h r (by simp [hr])
    match k with
    | 0 =>
      simp only [List.getElem?_cons_zero,Option.some.injEq] at hr
      subst hr
      rw [if_pos hv]
      obtain ⟨⟨a1,a2,a3⟩,_⟩:=sumLive_ge t (amtSum s x.bal) (B+1000000) ht (by omega) (by omega) w4.1 w4.2.1 w4.2.2
      exact ⟨by omega,by omega,by omega⟩
    | k+1 =>
      rw [List.getElem?_cons_succ] at hr
      cases hxl:x.live
      · exact live_add t s B ht hB (by omega) hs k r hr hv
      · obtain ⟨a1,a2,a3⟩:=live_add t (amtSum s x.bal) (B+1000000) ht (by omega) (by omega) w4 k r hr hv
        rw [if_pos rfl]
        exact ⟨by omega,by omega,by omega⟩
theorem live_two:∀ (t:List DRes) (s:DAmt) (B:Int),(∀ r,r ∈ t→amtOk r.bal=true)→0≤B→B+1000000 * (t.length:Int)≤1000000000→inB s B→∀ (k j:Nat) (r q:DRes),k<j→t[k]?=some r→r.live=true→t[j]?=some q→q.live=true →
    r.bal.pages+q.bal.pages≤(sumLive s t).pages∧r.bal.rent+q.bal.rent≤(sumLive s t).rent∧r.bal.cpu+q.bal.cpu≤(sumLive s t).cpu
  | [],s,B,_,_,_,_,k,j,r,q,_,hr,_,_,_=>by simp at hr
  | x::t,s,B,h,hB,hL,hs,k,j,r,q,hkj,hr,hv,hq,hw=>by
    have hx:=h x (by simp)
    simp only [List.length_cons] at hL
    obtain ⟨w1,w2,w3,w4⟩:=amtSum_in hs hx (by omega)
    have e:sumLive s (x::t)=sumLive (if x.live then amtSum s x.bal else s) t:=rfl
    rw [e]
    have ht:∀ r,r ∈ t→amtOk r.bal=true:=fun r hr=>h r (by simp [hr])
    unfold inB at hs
    match k,j,hkj with
    | 0,j+1,_ =>
      simp only [List.getElem?_cons_zero,Option.some.injEq] at hr
      subst hr
      rw [List.getElem?_cons_succ] at hq
      rw [if_pos hv]
      obtain ⟨a1,a2,a3⟩:=live_add t (amtSum s x.bal) (B+1000000) ht (by omega) (by omega) w4 j q hq hw
      exact ⟨by omega,by omega,by omega⟩
    | k+1,j+1,hkj =>
      rw [List.getElem?_cons_succ] at hr hq
      cases hxl:x.live
      · exact live_two t s B ht hB (by omega) hs k j r q (by omega) hr hv hq hw
      · rw [if_pos rfl]
        exact live_two t (amtSum s x.bal) (B+1000000) ht (by omega) (by omega) w4 k j r q (by omega) hr hv hq hw
theorem two_fit {t:List DRes} (h:Tr t) {u i:Int} (hu:0≤u∧u≤4) (hi:0≤i∧i≤4) (hne:u ≠ i) (h1:(nth t u).live=true) (h2:(nth t i).live=true):amtAdd (nth t u).bal (nth t i).bal=(amtSum (nth t u).bal (nth t i).bal,true):=by
  have hl:=h.len
  have z:inB ⟨0,0,0⟩ 0:=by unfold inB;decide
  have hS:=amtOk_iff.1 h.sum
  have gu:=nth_get (l:=t) (i:=u) hu.1 (by omega)
  have gi:=nth_get (l:=t) (i:=i) hi.1 (by omega)
  have bu:=h.bal _ (List.mem_of_getElem? gu)
  have bi:=h.bal _ (List.mem_of_getElem? gi)
  have bu':=amtOk_iff.1 bu
  have bi':=amtOk_iff.1 bi
  have key:(nth t u).bal.pages+(nth t i).bal.pages≤(sumLive ⟨0,0,0⟩ t).pages∧(nth t u).bal.rent+(nth t i).bal.rent≤(sumLive ⟨0,0,0⟩ t).rent∧(nth t u).bal.cpu+(nth t i).bal.cpu≤(sumLive ⟨0,0,0⟩ t).cpu:=by
    rcases Int.lt_or_gt_of_ne hne with q | q
    · exact live_two t ⟨0,0,0⟩ 0 h.bal (by omega) (by omega) z u.toNat i.toNat _ _ (by omega) gu h1 gi h2
    · obtain ⟨a,b,c⟩:=live_two t ⟨0,0,0⟩ 0 h.bal (by omega) (by omega) z i.toNat u.toNat _ _ (by omega) gi h2 gu h1
      exact ⟨by omega,by omega,by omega⟩
  have v1:(amtSum (nth t u).bal (nth t i).bal).pages=(nth t u).bal.pages+(nth t i).bal.pages:=wrap_ok (by omega) (by omega)
  have v2:(amtSum (nth t u).bal (nth t i).bal).rent=(nth t u).bal.rent+(nth t i).bal.rent:=wrap_ok (by omega) (by omega)
  have v3:(amtSum (nth t u).bal (nth t i).bal).cpu=(nth t u).bal.cpu+(nth t i).bal.cpu:=wrap_ok (by omega) (by omega)
  have:amtOk (amtSum (nth t u).bal (nth t i).bal)=true:=amtOk_iff.2 ⟨by omega,by omega,by omega⟩
  unfold amtAdd
  rw [bu,bi,this];rfl
def reparent (i u:Int) (r:DRes):DRes:=if r.live&&(r.parent==i) then DRes.mk r.live u r.bal else r
def dropped (t:List DRes) (i:Int):List DRes:=(t.set (up t i).toNat (withBal (nth t (up t i)) (amtSum (nth t (up t i)).bal (nth t i).bal))).set i.toNat zRes
def treeDrop (t:List DRes) (i:Int):List DRes×Bool:=if (treeOk t&&liveAt t i)&&(i != 0) then ((dropped t i).map (reparent i (up t i)),true) else (t,false)
theorem treeDrop_len (t:List DRes) (i:Int):(treeDrop t i).1.length=t.length:=by
  unfold treeDrop dropped
  split <;> simp
theorem s_TreeDrop {N:Nat} (hN:BIG≤N) {t:List DRes} (hB:t.length<BIG) (i:Int):F_s_TreeDrop N t i=some (treeDrop t i):=by
  unfold F_s_TreeDrop treeDrop
  simp only [s_l6Copy hB,s_l6Live hN,Option.bind_some,bOr]
  cases h:(treeOk t&&liveAt t i)
  · rfl
  simp only [Bool.and_eq_true] at h
  have hT:=treeOk_iff.1 h.1
  have hl:=hT.len
  cases hi:(i==0)
  case true=>simp only [Bool.not_true,Bool.or_true,cond_true,Bool.true_and,bne,hi,Bool.false_eq_true,if_false]
  have hi':i ≠ 0:=by simpa using hi
  obtain ⟨i0,i4⟩:=liveAt_rng h.2
  obtain ⟨u0,u4,une,ulv⟩:=up_rng hT h.2 hi'
  have ilv:(nth t i).live=true:=by
    have:=h.2
    unfold liveAt at this
    simp only [Bool.and_eq_true] at this
    exact this.2
  have eu:idx t (nth t i).parent=some (nth t (up t i)):=idx_ok (i:=up t i) u0 (by omega)
  have ff:=two_fit hT ⟨u0,u4⟩ ⟨i0,i4⟩ une ulv ilv
  have e2:∀ z,idx (t.set (nth t i).parent.toNat z) i=some (nth (t.set (nth t i).parent.toNat z) i):=fun z=>idx_ok i0 (by simp only [List.length_set];omega)
  simp only [Bool.not_true,Bool.or_false,cond_false,idx_ok (l:=t) i0 (by omega),eu,s_AmtAdd,ff,Option.bind_some,e2,bne,hi,Bool.not_false,Bool.and_self,if_true]
  rw [show (((t.set (nth t i).parent.toNat (DRes.mk (nth t (up t i)).live (nth t (up t i)).parent (DAmt.mk (amtSum (nth t (up t i)).bal (nth t i).bal).pages (amtSum (nth t (up t i)).bal (nth t i).bal).rent (amtSum (nth t (up t i)).bal (nth t i).bal).cpu))).set i.toNat (DRes.mk false 0 (DAmt.mk 0 0 0))))=dropped t i from rfl]
  rw [iter_map (dropped t i) (reparent i (up t i)) (show (dropped t i).length<N by unfold dropped;simp only [List.length_set];omega)]
  · rfl
  · intro k x y hx hty _ hk
    have hk':k<x.length:=by omega
    have hk2:k<t.length:=by unfold dropped at hk;simp only [List.length_set] at hk;omega
    simp only [lt_dec hk',cond_true,idx_nat,hty,Option.bind_some,bAnd,wrap1 (show k<BIG by omega),Int.toNat_natCast]
    unfold reparent
    cases (y.live&&(y.parent==i))
    · simp only [cond_false,Bool.false_eq_true,if_false,set_get hty]
    · simp only [cond_true,if_true];rfl
  · intro x hx
    rw [← hx]
    simp only [ge_dec,cond_false]
end Go.Kx
/- Plain laws: what trees keep when they pay, are paid back, split, give and drop. No program in sight. -/
namespace Go.Kx
open Go
set_option linter.unusedVariables false
set_option linter.unusedSimpArgs false
set_option maxRecDepth 10000
def tot (f:DAmt→Int):List DRes→Int
  | []=>0
  | r::t=>(if r.live then f r.bal else 0)+tot f t
def has1 (f:DAmt→Int) (r:DRes):Int:=if r.live then f r.bal else 0
theorem tot_set (f:DAmt→Int):∀ (t:List DRes) (k:Nat) (r z:DRes),t[k]?=some r→tot f (t.set k z)=tot f t - has1 f r+has1 f z
  | [],k,r,z,h=>by simp at h
  | x::t,0,r,z,h=>by
    simp only [List.getElem?_cons_zero,Option.some.injEq] at h
    subst h
    show has1 f z+tot f t=has1 f x+tot f t - has1 f x+has1 f z
    omega
  | x::t,k+1,r,z,h=>by
    rw [List.getElem?_cons_succ] at h
    have:=tot_set f t k r z h
    show has1 f x+tot f (t.set k z)=has1 f x+tot f t - has1 f r+has1 f z
    omega
theorem sumLive_tot:∀ (t:List DRes) (s:DAmt) (B:Int),(∀ r,r ∈ t→amtOk r.bal=true)→0≤B→B+1000000 * (t.length:Int)≤1000000000→inB s B →
    (sumLive s t).pages=s.pages+tot DAmt.pages t∧(sumLive s t).rent=s.rent+tot DAmt.rent t∧(sumLive s t).cpu=s.cpu+tot DAmt.cpu t
  | [],s,B,_,_,_,_=>⟨(Int.add_zero _).symm,(Int.add_zero _).symm,(Int.add_zero _).symm⟩
  | x::t,s,B,h,hB,hL,hs=>by
    have hx:=h x (by simp)
    simp only [List.length_cons] at hL
    obtain ⟨w1,w2,w3,w4⟩:=amtSum_in hs hx (by omega)
    have e:sumLive s (x::t)=sumLive (if x.live then amtSum s x.bal else s) t:=rfl
    have ht:∀ r,r ∈ t→amtOk r.bal=true:=fun r hr=>h r (by simp [hr])
    have d:∀ f:DAmt→Int,tot f (x::t)=(if x.live then f x.bal else 0)+tot f t:=fun f=>rfl
    rw [e,d,d,d]
    cases hxl:x.live
    · obtain ⟨a1,a2,a3⟩:=sumLive_tot t s B ht hB (by omega) hs
      simp only [Bool.false_eq_true,if_false]
      exact ⟨by omega,by omega,by omega⟩
    · obtain ⟨a1,a2,a3⟩:=sumLive_tot t (amtSum s x.bal) (B+1000000) ht (by omega) (by omega) w4
      simp only [if_true]
      exact ⟨by omega,by omega,by omega⟩
theorem tot_rng {f:DAmt→Int} (hf:∀ a,amtOk a=true→0≤f a∧f a≤1000000):∀ (t:List DRes),(∀ r,r ∈ t→amtOk r.bal=true)→0≤tot f t∧tot f t≤1000000 * (t.length:Int)
  | [],_=>⟨Int.le_refl _,by simp [tot]⟩
  | x::t,h=>by
    obtain ⟨a,b⟩:=tot_rng hf t fun r hr=>h r (by simp [hr])
    have hx:=hf _ (h x (by simp))
    have d:tot f (x::t)=(if x.live then f x.bal else 0)+tot f t:=rfl
    rw [d]
    simp only [List.length_cons]
    split <;> omega
theorem zero_in:inB ⟨0,0,0⟩ 0:=by unfold inB;decide
theorem Tr.tot {t:List DRes} (h:Tr t):(sumLive ⟨0,0,0⟩ t).pages=tot DAmt.pages t∧(sumLive ⟨0,0,0⟩ t).rent=tot DAmt.rent t∧(sumLive ⟨0,0,0⟩ t).cpu=tot DAmt.cpu t:=by
  have hl:=h.len
  obtain ⟨a,b,c⟩:=sumLive_tot t ⟨0,0,0⟩ 0 h.bal (by omega) (by omega) zero_in
  simp only [Int.zero_add] at a b c
  exact ⟨a,b,c⟩
theorem nth_setR {t:List DRes} {i j:Int} {z:DRes} (h0:0≤i) (h1:i<(t.length:Int)) (hj:0≤j):nth (t.set i.toNat z) j=if i=j then z else nth t j:=by
  unfold nth
  by_cases e:i=j
  · subst e
    rw [if_pos rfl,List.getElem?_set_self (by omega)]
    rfl
  · rw [if_neg e,List.getElem?_set_ne (by omega)]
theorem live_bal {t:List DRes} {i:Int} (h0:0≤i) (h1:i<(t.length:Int)) (b:DAmt) {j:Int} (hj:0≤j):(nth (t.set i.toNat (withBal (nth t i) b)) j).live=(nth t j).live∧(nth (t.set i.toNat (withBal (nth t i) b)) j).parent=(nth t j).parent:=by
  rw [nth_setR h0 h1 hj]
  split
  · rename_i e
    subst e
    exact ⟨rfl,rfl⟩
  · exact ⟨rfl,rfl⟩
theorem liveAt_bal {t:List DRes} {i:Int} (h0:0≤i) (h1:i<(t.length:Int)) (b:DAmt) (j:Int):liveAt (t.set i.toNat (withBal (nth t i) b)) j=liveAt t j:=by
  unfold liveAt
  cases hj:inR j 0 4
  · rfl
  · rw [(live_bal h0 h1 b (inR_iff.1 hj).1).1]
theorem leads_bal {t:List DRes} {i:Int} (h0:0≤i) (h1:i<(t.length:Int)) (b:DAmt):∀ (n:Nat) (j:Int),leads (t.set i.toNat (withBal (nth t i) b)) n j=leads t n j
  | 0,j=>rfl
  | n+1,j=>by
    unfold leads
    rw [liveAt_bal h0 h1]
    cases hv:liveAt t j
    · rfl
    · have:=(liveAt_rng hv).1
      have e:up (t.set i.toNat (withBal (nth t i) b)) j=up t j:=(live_bal h0 h1 b this).2
      rw [e,leads_bal h0 h1 b n (up t j)]
theorem Tr.set {t:List DRes} (h:Tr t) {i:Int} (h0:0≤i) (h4:i≤4) (hv:(nth t i).live=true) {b:DAmt} (hb:amtOk b=true)
    (hs:amtOk ⟨Kx.tot DAmt.pages t - (nth t i).bal.pages+b.pages,Kx.tot DAmt.rent t - (nth t i).bal.rent+b.rent,Kx.tot DAmt.cpu t - (nth t i).bal.cpu+b.cpu⟩=true) :
    Tr (t.set i.toNat (withBal (nth t i) b))∧∀ f:DAmt→Int,Kx.tot f (t.set i.toNat (withBal (nth t i) b))=Kx.tot f t - f (nth t i).bal+f b:=by
  have hl:=h.len
  have hi:i<(t.length:Int):=by omega
  have hg:=nth_get (l:=t) h0 hi
  have ht:∀ f:DAmt→Int,Kx.tot f (t.set i.toNat (withBal (nth t i) b))=Kx.tot f t - f (nth t i).bal+f b:=fun f=>by
    rw [tot_set f t i.toNat _ _ hg]
    have e1:has1 f (nth t i)=f (nth t i).bal:=if_pos hv
    have e2:has1 f (withBal (nth t i) b)=f b:=if_pos hv
    rw [e1,e2]
  have hbal:∀ r,r ∈ t.set i.toNat (withBal (nth t i) b)→amtOk r.bal=true:=fun r hr=>by
    rcases List.mem_or_eq_of_mem_set hr with q | q
    · exact h.bal r q
    · rw [q];exact hb
  have hl':(t.set i.toNat (withBal (nth t i) b)).length=5:=by rw [List.length_set];exact hl
  refine ⟨⟨hl',?_,?_,?_,hbal,?_,?_⟩,ht⟩
  · rw [(live_bal h0 hi b (by omega)).1];exact h.live0
  · rw [(live_bal h0 hi b (by omega)).2];exact h.par0
  · intro r hr hd
    rcases List.mem_or_eq_of_mem_set hr with q | q
    · exact h.dead r q hd
    · rw [q] at hd
      have:(nth t i).live=false:=hd
      rw [hv] at this;cases this
  · intro k r hr hlv
    rw [leads_bal h0 hi]
    have hk:k<(t.set i.toNat (withBal (nth t i) b)).length:=lt_of_some hr
    have e1:=nth_of hr
    have e2:=(live_bal h0 hi b (j:=(k:Int)) (by omega)).1
    rw [e1,hlv] at e2
    exact h.lead k (nth t (k:Int)) (nth_get (l:=t) (i:=(k:Int)) (by omega) (by omega)) e2.symm
  · obtain ⟨a1,a2,a3⟩:=sumLive_tot _ ⟨0,0,0⟩ 0 hbal (by omega) (by omega) zero_in
    have e:sumLive ⟨0,0,0⟩ (t.set i.toNat (withBal (nth t i) b))=⟨Kx.tot DAmt.pages t - (nth t i).bal.pages+b.pages,Kx.tot DAmt.rent t - (nth t i).bal.rent+b.rent,Kx.tot DAmt.cpu t - (nth t i).bal.cpu+b.cpu⟩:=by
      generalize sumLive ⟨0,0,0⟩ (t.set i.toNat (withBal (nth t i) b))=q at *
      obtain ⟨q1,q2,q3⟩:=q
      simp only [Int.zero_add,ht] at a1 a2 a3
      subst a1 a2 a3
      rfl
    rw [e];exact hs
theorem minus_ok {a b:DAmt} (h:amtFits a b=true):(amtMinus b a)=⟨b.pages - a.pages,b.rent - a.rent,b.cpu - a.cpu⟩∧amtOk ⟨b.pages - a.pages,b.rent - a.rent,b.cpu - a.cpu⟩=true:=by
  unfold amtFits at h
  simp only [Bool.and_eq_true,decide_eq_true_eq] at h
  obtain ⟨h1,h2,h3,h4,h5⟩:=h
  have a1:=amtOk_iff.1 h1
  have a2:=amtOk_iff.1 h2
  refine ⟨?_,amtOk_iff.2 ⟨by simp only;omega,by simp only;omega,by simp only;omega⟩⟩
  unfold amtMinus
  rw [wrap_ok (by omega) (by omega),wrap_ok (by omega) (by omega),wrap_ok (by omega) (by omega)]
theorem pay_keep {t:List DRes} {f:Int} {a:DAmt} (h:(treePay t f a).2=true):Tr (treePay t f a).1∧amtOk a=true∧∀ g:DAmt→Int,(∀ x y:DAmt,g ⟨x.pages - y.pages,x.rent - y.rent,x.cpu - y.cpu⟩=g x - g y)→tot g (treePay t f a).1=tot g t - g a:=by
  obtain ⟨h1,h2⟩:=pay_good h
  have hT:=treeOk_iff.1 h1
  obtain ⟨f0,f4⟩:=liveAt_rng h2
  have hlv:(nth t f).live=true:=by
    unfold liveAt at h2
    simp only [Bool.and_eq_true] at h2
    exact h2.2
  unfold treePay at *
  rw [h1,h2] at *
  simp only [Bool.and_self,if_true] at *
  cases hf:amtFits a (nth t f).bal
  · rw [hf] at h;simp at h
  · simp only [if_true]
    obtain ⟨e,ok⟩:=minus_ok hf
    have ha:amtOk a=true:=by
      unfold amtFits at hf
      simp only [Bool.and_eq_true] at hf
      exact hf.1
    rw [e]
    have hl:=hT.len
    have hm:nth t f ∈ t:=nth_mem f0 (by omega)
    have hS:=amtOk_iff.1 hT.sum
    obtain ⟨t1,t2,t3⟩:=hT.tot
    have ha':=amtOk_iff.1 ha
    have ok':=amtOk_iff.1 ok
    obtain ⟨_,q⟩:=sumLive_ge t ⟨0,0,0⟩ 0 hT.bal (by omega) (by omega) ⟨by decide,by decide⟩ ⟨by decide,by decide⟩ ⟨by decide,by decide⟩
    obtain ⟨q1,q2,q3⟩:=q _ hm hlv
    simp only at ok'
    obtain ⟨r1,r2⟩:=hT.set f0 f4 hlv ok (amtOk_iff.2 ⟨by simp only;omega,by simp only;omega,by simp only;omega⟩)
    refine ⟨r1,ha,fun g hg=>?_⟩
    rw [r2 g,hg]
    omega
end Go.Kx
