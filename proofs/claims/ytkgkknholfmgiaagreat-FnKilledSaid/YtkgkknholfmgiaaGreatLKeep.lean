/- Plain laws: what trees keep when they pay, are paid back, split, give and drop. No program in sight. -/
import Derived.Test.YtkgkknholfmgiaaGreatLOp
namespace Go.Kx
open Go
set_option linter.unusedVariables false
set_option linter.unusedSimpArgs false
set_option maxRecDepth 10000
def tot (f:DAmt→Int):List DRes→Int
  | []=>0
  | r::t=>(if r.live then f r.bal else 0)+tot f t
def has1 (f:DAmt→Int) (r:DRes):Int:=if r.live then f r.bal else 0
theorem tot_set (f:DAmt→Int):∀ (t:List DRes) (k:Nat) (r z:DRes),t[k]?=some r→tot f (t.set k z)=tot f t - has1 f r+has1 f z
  | [],k,r,z,h=>by simp at h
  | x::t,0,r,z,h=>by
    simp only [List.getElem?_cons_zero,Option.some.injEq] at h
    subst h
    show has1 f z+tot f t=has1 f x+tot f t - has1 f x+has1 f z
    omega
  | x::t,k+1,r,z,h=>by
    rw [List.getElem?_cons_succ] at h
    have:=tot_set f t k r z h
    show has1 f x+tot f (t.set k z)=has1 f x+tot f t - has1 f r+has1 f z
    omega
theorem sumLive_tot:∀ (t:List DRes) (s:DAmt) (B:Int),(∀ r,r ∈ t→amtOk r.bal=true)→0≤B→B+1000000 * (t.length:Int)≤1000000000→inB s B →
    (sumLive s t).pages=s.pages+tot DAmt.pages t∧(sumLive s t).rent=s.rent+tot DAmt.rent t∧(sumLive s t).cpu=s.cpu+tot DAmt.cpu t
  | [],s,B,_,_,_,_=>⟨(Int.add_zero _).symm,(Int.add_zero _).symm,(Int.add_zero _).symm⟩
  | x::t,s,B,h,hB,hL,hs=>by
    have hx:=h x (by simp)
    simp only [List.length_cons] at hL
    obtain ⟨w1,w2,w3,w4⟩:=amtSum_in hs hx (by omega)
    have e:sumLive s (x::t)=sumLive (if x.live then amtSum s x.bal else s) t:=rfl
    have ht:∀ r,r ∈ t→amtOk r.bal=true:=fun r hr=>h r (by simp [hr])
    have d:∀ f:DAmt→Int,tot f (x::t)=(if x.live then f x.bal else 0)+tot f t:=fun f=>rfl
    rw [e,d,d,d]
    cases hxl:x.live
    · obtain ⟨a1,a2,a3⟩:=sumLive_tot t s B ht hB (by omega) hs
      simp only [Bool.false_eq_true,if_false]
      exact ⟨by omega,by omega,by omega⟩
    · obtain ⟨a1,a2,a3⟩:=sumLive_tot t (amtSum s x.bal) (B+1000000) ht (by omega) (by omega) w4
      simp only [if_true]
      exact ⟨by omega,by omega,by omega⟩
theorem zero_in:inB ⟨0,0,0⟩ 0:=by unfold inB;decide
theorem Tr.tot {t:List DRes} (h:Tr t):(sumLive ⟨0,0,0⟩ t).pages=tot DAmt.pages t∧(sumLive ⟨0,0,0⟩ t).rent=tot DAmt.rent t∧(sumLive ⟨0,0,0⟩ t).cpu=tot DAmt.cpu t:=by
  have hl:=h.len
  obtain ⟨a,b,c⟩:=sumLive_tot t ⟨0,0,0⟩ 0 h.bal (by omega) (by omega) zero_in
  simp only [Int.zero_add] at a b c
  exact ⟨a,b,c⟩
theorem nth_setR {t:List DRes} {i j:Int} {z:DRes} (h0:0≤i) (h1:i<(t.length:Int)) (hj:0≤j):nth (t.set i.toNat z) j=if i=j then z else nth t j:=by
  unfold nth
  by_cases e:i=j
  · subst e
    rw [if_pos rfl,List.getElem?_set_self (by omega)]
    rfl
  · rw [if_neg e,List.getElem?_set_ne (by omega)]
theorem live_bal {t:List DRes} {i:Int} (h0:0≤i) (h1:i<(t.length:Int)) (b:DAmt) {j:Int} (hj:0≤j):(nth (t.set i.toNat (withBal (nth t i) b)) j).live=(nth t j).live∧(nth (t.set i.toNat (withBal (nth t i) b)) j).parent=(nth t j).parent:=by
  rw [nth_setR h0 h1 hj]
  split
  · rename_i e
    subst e
    exact ⟨rfl,rfl⟩
  · exact ⟨rfl,rfl⟩
theorem liveAt_bal {t:List DRes} {i:Int} (h0:0≤i) (h1:i<(t.length:Int)) (b:DAmt) (j:Int):liveAt (t.set i.toNat (withBal (nth t i) b)) j=liveAt t j:=by
  unfold liveAt
  cases hj:inR j 0 4
  · rfl
  · rw [(live_bal h0 h1 b (inR_iff.1 hj).1).1]
theorem leads_bal {t:List DRes} {i:Int} (h0:0≤i) (h1:i<(t.length:Int)) (b:DAmt):∀ (n:Nat) (j:Int),leads (t.set i.toNat (withBal (nth t i) b)) n j=leads t n j
  | 0,j=>rfl
  | n+1,j=>by
    unfold leads
    rw [liveAt_bal h0 h1]
    cases hv:liveAt t j
    · rfl
    · have:=(liveAt_rng hv).1
      have e:up (t.set i.toNat (withBal (nth t i) b)) j=up t j:=(live_bal h0 h1 b this).2
      rw [e,leads_bal h0 h1 b n (up t j)]
theorem Tr.set {t:List DRes} (h:Tr t) {i:Int} (h0:0≤i) (h4:i≤4) (hv:(nth t i).live=true) {b:DAmt} (hb:amtOk b=true)
    (hs:amtOk ⟨Kx.tot DAmt.pages t - (nth t i).bal.pages+b.pages,Kx.tot DAmt.rent t - (nth t i).bal.rent+b.rent,Kx.tot DAmt.cpu t - (nth t i).bal.cpu+b.cpu⟩=true) :
    Tr (t.set i.toNat (withBal (nth t i) b))∧∀ f:DAmt→Int,Kx.tot f (t.set i.toNat (withBal (nth t i) b))=Kx.tot f t - f (nth t i).bal+f b:=by
  have hl:=h.len
  have hi:i<(t.length:Int):=by omega
  have hg:=nth_get (l:=t) h0 hi
  have ht:∀ f:DAmt→Int,Kx.tot f (t.set i.toNat (withBal (nth t i) b))=Kx.tot f t - f (nth t i).bal+f b:=fun f=>by
    rw [tot_set f t i.toNat _ _ hg]
    have e1:has1 f (nth t i)=f (nth t i).bal:=if_pos hv
    have e2:has1 f (withBal (nth t i) b)=f b:=if_pos hv
    rw [e1,e2]
  have hbal:∀ r,r ∈ t.set i.toNat (withBal (nth t i) b)→amtOk r.bal=true:=fun r hr=>by
    rcases List.mem_or_eq_of_mem_set hr with q | q
    · exact h.bal r q
    · rw [q];exact hb
  have hl':(t.set i.toNat (withBal (nth t i) b)).length=5:=by rw [List.length_set];exact hl
  refine ⟨⟨hl',?_,?_,?_,hbal,?_,?_⟩,ht⟩
  · rw [(live_bal h0 hi b (by omega)).1];exact h.live0
  · rw [(live_bal h0 hi b (by omega)).2];exact h.par0
  · intro r hr hd
    rcases List.mem_or_eq_of_mem_set hr with q | q
    · exact h.dead r q hd
    · rw [q] at hd
      have:(nth t i).live=false:=hd
      rw [hv] at this;cases this
  · intro k r hr hlv
    rw [leads_bal h0 hi]
    have hk:k<(t.set i.toNat (withBal (nth t i) b)).length:=lt_of_some hr
    have e1:=nth_of hr
    have e2:=(live_bal h0 hi b (j:=(k:Int)) (by omega)).1
    rw [e1,hlv] at e2
    exact h.lead k (nth t (k:Int)) (nth_get (l:=t) (i:=(k:Int)) (by omega) (by omega)) e2.symm
  · obtain ⟨a1,a2,a3⟩:=sumLive_tot _ ⟨0,0,0⟩ 0 hbal (by omega) (by omega) zero_in
    have e:sumLive ⟨0,0,0⟩ (t.set i.toNat (withBal (nth t i) b))=⟨Kx.tot DAmt.pages t - (nth t i).bal.pages+b.pages,Kx.tot DAmt.rent t - (nth t i).bal.rent+b.rent,Kx.tot DAmt.cpu t - (nth t i).bal.cpu+b.cpu⟩:=by
      generalize sumLive ⟨0,0,0⟩ (t.set i.toNat (withBal (nth t i) b))=q at *
      obtain ⟨q1,q2,q3⟩:=q
      simp only [Int.zero_add,ht] at a1 a2 a3
      subst a1 a2 a3
      rfl
    rw [e];exact hs
end Go.Kx
