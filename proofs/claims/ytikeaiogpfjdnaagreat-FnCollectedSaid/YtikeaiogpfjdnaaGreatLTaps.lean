/- Plain laws: taps. No program in sight. -/
import Derived.Test.YtikeaiogpfjdnaaGreatLStep
import Derived.Test.YtikeaiogpfjdnaaGreatLCollect
namespace Go.Kx
open Go
set_option linter.unusedVariables false
set_option linter.unusedSimpArgs false
set_option maxRecDepth 10000
def xq (a:iw) (w:Int):Int:=if w==0 then a.cd else if w==1 then a.im else if w==2 then a.iC else 0
theorem CM (N:Nat) (a:iw) (w:Int):px N a w=some (xq a w):=by
  unfold px xq
  cases w==0 <;> cases w==1 <;> cases w==2 <;> rfl
end Go.Kx
/- Plain laws: what is split off, given and dropped in a tree. No program in sight. -/
namespace Go.Kx
open Go
set_option linter.unusedVariables false
set_option linter.unusedSimpArgs false
set_option maxRecDepth 10000
theorem Dk {t:List iq} {f:Int} {a:iw} (h:(kr t f a).2=true):km t=true∧ji t f=true:=by
  unfold kr at h
  split at h
  · rename_i q
    simpa using q
  · cases h
theorem Dc (t:List iq) (f:Int) (a:iw):(kr t f a).1.map iq.live=t.map iq.live:=by
  unfold kr
  split
  · rename_i q
    simp only [Bool.and_eq_true] at q
    obtain ⟨f0,f4⟩:=lC q.2
    have hl:=tM q.1
    split
    · rw [List.map_set]
      refine qg ?_
      rw [List.getElem?_map,lj f0 (by omega)]
      rfl
    · rfl
  · rfl
def vx:Nat→List Bool→Option Nat
  | _,[]=>none
  | k,b::l=>if b then vx (k+1) l else some k
theorem A2 {ρ:Type} (g:Nat→ρ) (r:ρ):∀ (l:List iq) (k:Nat),mo (fun k (_:Unit) (y:iq)=>if y.live then .inl () else .inr (g k)) (fun _=>r) k () l=(match vx k (l.map iq.live) with | none=>r | some k=>g k)
  | [],k=>rfl
  | y::l,k=>by
    unfold mo
    simp only [List.map_cons,vx]
    cases y.live
    · rfl
    · exact A2 g r l (k+1)
theorem DE {ρ:Type} {N:Nat} (hN:iy≤N) {x:List iq} (hx:x.length<iy) (g:Nat→ρ) (r:ρ) {body:Int→Option (Int⊕ρ)}
    (hs:∀ (k:Nat) (y:iq),x[k]?=some y→k<x.length→body (k:Int)=some (if y.live then .inl ((k+1:Nat):Int) else .inr (g k))) (he:body (x.length:Int)=some (.inr r)) :
    iter body N 0=some (match vx 0 (x.map iq.live) with | none=>r | some k=>g k):=by
  rw [show (0:Int)=(fun (k:Nat) (_:Unit)=>(k:Int)) 0 () from rfl,
    nj x (fun (k:Nat) (_:Unit)=>(k:Int)) (fun k _ y=>if y.live then .inl () else .inr (g k)) (fun _=>r) (fun _ _=>True) ?_ ?_ (Nat.lt_of_lt_of_le hx hN) trivial,A2]
  · intro k _ y hy hk _
    refine ⟨?_,fun _ _=>trivial⟩
    show body (k:Int)=_
    rw [hs k y hy hk]
    cases y.live <;> rfl
  · intro _ _
    exact he
def mN (t:List iq) (f:Int) (a:iw):List iq×Int×Bool :=
  if (kr t f a).2 then (match vx 0 (t.map iq.live) with | none=>(t,0,false) | some k=>((kr t f a).1.set k (iq.mk true f a),(k:Int),true)) else (t,0,false)
theorem uo (t:List iq) (f:Int) (a:iw):(mN t f a).1.length=t.length:=by
  unfold mN
  split
  · split
    · rfl
    · simp only [List.length_set,mY]
  · rfl
theorem vT {N:Nat} (hN:iy≤N) {t:List iq} (hB:t.length<iy) (f:Int) (a:iw):my N t f a=some (mN t f a):=by
  unfold my mN
  simp only [sU hN hB,Option.bind_some]
  cases h:(kr t f a).2
  · simp only [Bool.not_false,cond_true,oq hB,Option.bind_some,Bool.false_eq_true,if_false]
  have hp:=mY t f a
  simp only [Bool.not_true,cond_false,if_true]
  rw [DE (x:=(kr t f a).1) hN (by omega) (fun k=>Sum.inr ((kr t f a).1.set k (iq.mk true f a),(k:Int),true)) (Sum.inl ((kr t f a).1.length:Int)),Dc]
  · simp only [Option.bind_some]
    cases vx 0 (t.map iq.live)
    · simp only [Sum.elim_inl,oq hB,Option.bind_some]
    · rfl
  · intro k y hy hk
    simp only [jt hk,cond_true,iT,hy,Option.bind_some,jo (show k<iy by omega),Int.toNat_natCast]
    cases y.live <;> rfl
  · simp only [ju,cond_false]
def oe (t:List iq) (f g:Int) (a:iw):List iq×Bool:=if (kr t f a).2&&ji t g then lf (kr t f a).1 g a else (t,false)
theorem yC (t:List iq) (f g:Int) (a:iw):(oe t f g a).1.length=t.length:=by
  unfold oe
  split
  · rw [uz,mY]
  · rfl
theorem Bp {N:Nat} (hN:iy≤N) {t:List iq} (hB:t.length<iy) (f g:Int) (a:iw):ox N t f g a=some (oe t f g a):=by
  unfold ox oe
  have hp:=mY t f a
  simp only [sB hN,sU hN hB,Option.bind_some]
  cases h:(kr t f a).2
  · cases km t&&ji t g <;> simp only [Bool.not_false,Bool.not_true,cond_true,cond_false,oq hB,Option.bind_some,Bool.false_and,Bool.false_eq_true,if_false]
  rw [(Dk h).1]
  simp only [Bool.true_and]
  cases ji t g
  · simp only [Bool.not_false,cond_true,oq hB,Option.bind_some,Bool.false_eq_true,if_false]
  · simp only [Bool.not_true,cond_false,if_true,wQ hN (show (kr t f a).1.length<iy by omega),Option.bind_some]
theorem E7 {t:List iq} (h:Tr t) {i:Int} (hv:ji t i=true) (hi:i ≠ 0):0≤up t i∧up t i≤4∧up t i ≠ i∧(nth t (up t i)).live=true:=by
  obtain ⟨i0,i4⟩:=lC hv
  have hl:=h.len
  have hg:=lj (l:=t) i0 (by omega)
  have hlv:(nth t i).live=true:=by
    unfold ji at hv
    simp only [Bool.and_eq_true] at hv
    exact hv.2
  have h1:=h.lead i.toNat (nth t i) hg hlv
  rw [show ((i.toNat:Nat):Int)=i by omega] at h1
  have hne:up t i ≠ i:=fun q=>by rw [wj hi q] at h1;cases h1
  have h2:leads t 4 (up t i)=true:=by
    unfold leads at h1
    simpa [hi,hv] using h1
  by_cases hu:up t i=0
  · rw [hu]
    exact ⟨by omega,by omega,fun q=>hi q.symm,h.wB⟩
  · unfold leads at h2
    have h3:ji t (up t i)=true:=by
      cases q:ji t (up t i)
      · simp [hu,q] at h2
      · rfl
    obtain ⟨a,b⟩:=lC h3
    unfold ji at h3
    simp only [Bool.and_eq_true] at h3
    exact ⟨a,b,hne,h3.2⟩
def uT (s:iw) (B:Int):Prop:=(0≤s.cd∧s.cd≤B)∧(0≤s.im∧s.im≤B)∧(0≤s.iC∧s.iC≤B)
theorem uE {s a:iw} {B:Int} (hs:uT s B) (ha:i7 a=true) (hB:B≤1000000000):(iV s a).cd=s.cd+a.cd∧(iV s a).im=s.im+a.im∧(iV s a).iC=s.iC+a.iC∧uT (iV s a) (B+1000000):=by
  have h:=jT.1 ha
  unfold uT at hs
  have w1:(iV s a).cd=s.cd+a.cd:=iM (by omega) (by omega)
  have w2:(iV s a).im=s.im+a.im:=iM (by omega) (by omega)
  have w3:(iV s a).iC=s.iC+a.iC:=iM (by omega) (by omega)
  exact ⟨w1,w2,w3,⟨by omega,by omega⟩,⟨by omega,by omega⟩,⟨by omega,by omega⟩⟩
theorem wh:∀ (t:List iq) (s:iw) (B:Int),(∀ r,r ∈ t→i7 r.iL=true)→0≤B→B+1000000 * (t.length:Int)≤1000000000→uT s B→∀ (k:Nat) (r:iq),t[k]?=some r→r.live=true →
    s.cd+r.iL.cd≤(jc s t).cd∧s.im+r.iL.im≤(jc s t).im∧s.iC+r.iL.iC≤(jc s t).iC
  | [],s,B,_,_,_,_,k,r,hr,_=>by simp at hr
  | x::t,s,B,h,hB,hL,hs,k,r,hr,hv=>by
    have hx:=h x (by simp)
    simp only [List.length_cons] at hL
    obtain ⟨w1,w2,w3,w4⟩:=uE hs hx (by omega)
    have hx':=jT.1 hx
    have e:jc s (x::t)=jc (if x.live then iV s x.iL else s) t:=rfl
    rw [e]
    have ht:∀ r,r ∈ t→i7 r.iL=true:=fun r hr=>h r (by simp [hr])
    match k with
    | 0 =>
      simp only [List.getElem?_cons_zero,Option.some.injEq] at hr
      subst hr
      rw [if_pos hv]
      obtain ⟨⟨a1,a2,a3⟩,_⟩:=qF t (iV s x.iL) (B+1000000) ht (by omega) (by omega) w4.1 w4.2.1 w4.2.2
      exact ⟨by omega,by omega,by omega⟩
    | k+1 =>
      rw [List.getElem?_cons_succ] at hr
      cases hxl:x.live
      · exact wh t s B ht hB (by omega) hs k r hr hv
      · obtain ⟨a1,a2,a3⟩:=wh t (iV s x.iL) (B+1000000) ht (by omega) (by omega) w4 k r hr hv
        rw [if_pos rfl]
        exact ⟨by omega,by omega,by omega⟩
theorem tP:∀ (t:List iq) (s:iw) (B:Int),(∀ r,r ∈ t→i7 r.iL=true)→0≤B→B+1000000 * (t.length:Int)≤1000000000→uT s B→∀ (k j:Nat) (r q:iq),k<j→t[k]?=some r→r.live=true→t[j]?=some q→q.live=true →
    r.iL.cd+q.iL.cd≤(jc s t).cd∧r.iL.im+q.iL.im≤(jc s t).im∧r.iL.iC+q.iL.iC≤(jc s t).iC
  | [],s,B,_,_,_,_,k,j,r,q,_,hr,_,_,_=>by simp at hr
  | x::t,s,B,h,hB,hL,hs,k,j,r,q,hkj,hr,hv,hq,hw=>by
    have hx:=h x (by simp)
    simp only [List.length_cons] at hL
    obtain ⟨w1,w2,w3,w4⟩:=uE hs hx (by omega)
    have e:jc s (x::t)=jc (if x.live then iV s x.iL else s) t:=rfl
    rw [e]
    have ht:∀ r,r ∈ t→i7 r.iL=true:=fun r hr=>h r (by simp [hr])
    unfold uT at hs
    match k,j,hkj with
    | 0,j+1,_ =>
      simp only [List.getElem?_cons_zero,Option.some.injEq] at hr
      subst hr
      rw [List.getElem?_cons_succ] at hq
      rw [if_pos hv]
      obtain ⟨a1,a2,a3⟩:=wh t (iV s x.iL) (B+1000000) ht (by omega) (by omega) w4 j q hq hw
      exact ⟨by omega,by omega,by omega⟩
    | k+1,j+1,hkj =>
      rw [List.getElem?_cons_succ] at hr hq
      cases hxl:x.live
      · exact tP t s B ht hB (by omega) hs k j r q (by omega) hr hv hq hw
      · rw [if_pos rfl]
        exact tP t (iV s x.iL) (B+1000000) ht (by omega) (by omega) w4 k j r q (by omega) hr hv hq hw
theorem EF {t:List iq} (h:Tr t) {u i:Int} (hu:0≤u∧u≤4) (hi:0≤i∧i≤4) (hne:u ≠ i) (h1:(nth t u).live=true) (h2:(nth t i).live=true):nI (nth t u).iL (nth t i).iL=(iV (nth t u).iL (nth t i).iL,true):=by
  have hl:=h.len
  have z:uT ⟨0,0,0⟩ 0:=by unfold uT;decide
  have hS:=jT.1 h.sum
  have gu:=lj (l:=t) (i:=u) hu.1 (by omega)
  have gi:=lj (l:=t) (i:=i) hi.1 (by omega)
  have bu:=h.iL _ (List.mem_of_getElem? gu)
  have bi:=h.iL _ (List.mem_of_getElem? gi)
  have bu':=jT.1 bu
  have bi':=jT.1 bi
  have key:(nth t u).iL.cd+(nth t i).iL.cd≤(jc ⟨0,0,0⟩ t).cd∧(nth t u).iL.im+(nth t i).iL.im≤(jc ⟨0,0,0⟩ t).im∧(nth t u).iL.iC+(nth t i).iL.iC≤(jc ⟨0,0,0⟩ t).iC:=by
    rcases Int.lt_or_gt_of_ne hne with q | q
    · exact tP t ⟨0,0,0⟩ 0 h.iL (by omega) (by omega) z u.toNat i.toNat _ _ (by omega) gu h1 gi h2
    · obtain ⟨a,b,c⟩:=tP t ⟨0,0,0⟩ 0 h.iL (by omega) (by omega) z i.toNat u.toNat _ _ (by omega) gi h2 gu h1
      exact ⟨by omega,by omega,by omega⟩
  have v1:(iV (nth t u).iL (nth t i).iL).cd=(nth t u).iL.cd+(nth t i).iL.cd:=iM (by omega) (by omega)
  have v2:(iV (nth t u).iL (nth t i).iL).im=(nth t u).iL.im+(nth t i).iL.im:=iM (by omega) (by omega)
  have v3:(iV (nth t u).iL (nth t i).iL).iC=(nth t u).iL.iC+(nth t i).iL.iC:=iM (by omega) (by omega)
  have:i7 (iV (nth t u).iL (nth t i).iL)=true:=jT.2 ⟨by omega,by omega,by omega⟩
  unfold nI
  rw [bu,bi,this];rfl
def we (i u:Int) (r:iq):iq:=if r.live&&(r.parent==i) then iq.mk r.live u r.iL else r
def dropped (t:List iq) (i:Int):List iq:=(t.set (up t i).toNat (kT (nth t (up t i)) (iV (nth t (up t i)).iL (nth t i).iL))).set i.toNat sE
def oE (t:List iq) (i:Int):List iq×Bool:=if (km t&&ji t i)&&(i != 0) then ((dropped t i).map (we i (up t i)),true) else (t,false)
theorem uS (t:List iq) (i:Int):(oE t i).1.length=t.length:=by
  unfold oE dropped
  split <;> simp
theorem w9 {N:Nat} (hN:iy≤N) {t:List iq} (hB:t.length<iy) (i:Int):na N t i=some (oE t i):=by
  unfold na oE
  simp only [oq hB,sB hN,Option.bind_some,lG]
  cases h:(km t&&ji t i)
  · rfl
  simp only [Bool.and_eq_true] at h
  have hT:=mQ.1 h.1
  have hl:=hT.len
  cases hi:(i==0)
  case true=>simp only [Bool.not_true,Bool.or_true,cond_true,Bool.true_and,bne,hi,Bool.false_eq_true,if_false]
  have hi':i ≠ 0:=by simpa using hi
  obtain ⟨i0,i4⟩:=lC h.2
  obtain ⟨u0,u4,une,ulv⟩:=E7 hT h.2 hi'
  have ilv:(nth t i).live=true:=by
    have:=h.2
    unfold ji at this
    simp only [Bool.and_eq_true] at this
    exact this.2
  have eu:idx t (nth t i).parent=some (nth t (up t i)):=jk (i:=up t i) u0 (by omega)
  have ff:=EF hT ⟨u0,u4⟩ ⟨i0,i4⟩ une ulv ilv
  have e2:∀ z,idx (t.set (nth t i).parent.toNat z) i=some (nth (t.set (nth t i).parent.toNat z) i):=fun z=>jk i0 (by simp only [List.length_set];omega)
  simp only [Bool.not_true,Bool.or_false,cond_false,jk (l:=t) i0 (by omega),eu,tQ,ff,Option.bind_some,e2,bne,hi,Bool.not_false,Bool.and_self,if_true]
  rw [show (((t.set (nth t i).parent.toNat (iq.mk (nth t (up t i)).live (nth t (up t i)).parent (iw.mk (iV (nth t (up t i)).iL (nth t i).iL).cd (iV (nth t (up t i)).iL (nth t i).iL).im (iV (nth t (up t i)).iL (nth t i).iL).iC))).set i.toNat (iq.mk false 0 (iw.mk 0 0 0))))=dropped t i from rfl]
  rw [tN (dropped t i) (we i (up t i)) (show (dropped t i).length<N by unfold dropped;simp only [List.length_set];omega)]
  · rfl
  · intro k x y hx hty _ hk
    have hk':k<x.length:=by omega
    have hk2:k<t.length:=by unfold dropped at hk;simp only [List.length_set] at hk;omega
    simp only [jt hk',cond_true,iT,hty,Option.bind_some,lp,jo (show k<iy by omega),Int.toNat_natCast]
    unfold we
    cases (y.live&&(y.parent==i))
    · simp only [cond_false,Bool.false_eq_true,if_false,qg hty]
    · simp only [cond_true,if_true];rfl
  · intro x hx
    rw [← hx]
    simp only [ju,cond_false]
end Go.Kx
/- Plain laws: what trees kW when they pay, are vY back, split, give and drop. No program in sight. -/
namespace Go.Kx
open Go
set_option linter.unusedVariables false
set_option linter.unusedSimpArgs false
set_option maxRecDepth 10000
def kh (f:iw→Int):List iq→Int
  | []=>0
  | r::t=>(if r.live then f r.iL else 0)+kh f t
def rW (f:iw→Int) (r:iq):Int:=if r.live then f r.iL else 0
theorem AH (f:iw→Int):∀ (t:List iq) (k:Nat) (r z:iq),t[k]?=some r→kh f (t.set k z)=kh f t - rW f r+rW f z
  | [],k,r,z,h=>by simp at h
  | x::t,0,r,z,h=>by
    simp only [List.getElem?_cons_zero,Option.some.injEq] at h
    subst h
    show rW f z+kh f t=rW f x+kh f t - rW f x+rW f z
    omega
  | x::t,k+1,r,z,h=>by
    rw [List.getElem?_cons_succ] at h
    have:=AH f t k r z h
    show rW f x+kh f (t.set k z)=rW f x+kh f t - rW f r+rW f z
    omega
theorem rm:∀ (t:List iq) (s:iw) (B:Int),(∀ r,r ∈ t→i7 r.iL=true)→0≤B→B+1000000 * (t.length:Int)≤1000000000→uT s B →
    (jc s t).cd=s.cd+kh iw.cd t∧(jc s t).im=s.im+kh iw.im t∧(jc s t).iC=s.iC+kh iw.iC t
  | [],s,B,_,_,_,_=>⟨(Int.add_zero _).symm,(Int.add_zero _).symm,(Int.add_zero _).symm⟩
  | x::t,s,B,h,hB,hL,hs=>by
    have hx:=h x (by simp)
    simp only [List.length_cons] at hL
    obtain ⟨w1,w2,w3,w4⟩:=uE hs hx (by omega)
    have e:jc s (x::t)=jc (if x.live then iV s x.iL else s) t:=rfl
    have ht:∀ r,r ∈ t→i7 r.iL=true:=fun r hr=>h r (by simp [hr])
    have d:∀ f:iw→Int,kh f (x::t)=(if x.live then f x.iL else 0)+kh f t:=fun f=>rfl
    rw [e,d,d,d]
    cases hxl:x.live
    · obtain ⟨a1,a2,a3⟩:=rm t s B ht hB (by omega) hs
      simp only [Bool.false_eq_true,if_false]
      exact ⟨by omega,by omega,by omega⟩
    · obtain ⟨a1,a2,a3⟩:=rm t (iV s x.iL) (B+1000000) ht (by omega) (by omega) w4
      simp only [if_true]
      exact ⟨by omega,by omega,by omega⟩
theorem Ba:uT ⟨0,0,0⟩ 0:=by unfold uT;decide
theorem Tr.kh {t:List iq} (h:Tr t):(jc ⟨0,0,0⟩ t).cd=kh iw.cd t∧(jc ⟨0,0,0⟩ t).im=kh iw.im t∧(jc ⟨0,0,0⟩ t).iC=kh iw.iC t:=by
  have hl:=h.len
  obtain ⟨a,b,c⟩:=rm t ⟨0,0,0⟩ 0 h.iL (by omega) (by omega) Ba
  simp only [Int.zero_add] at a b c
  exact ⟨a,b,c⟩
theorem DL {t:List iq} {i j:Int} {z:iq} (h0:0≤i) (h1:i<(t.length:Int)) (hj:0≤j):nth (t.set i.toNat z) j=if i=j then z else nth t j:=by
  unfold nth
  by_cases e:i=j
  · subst e
    rw [if_pos rfl,List.getElem?_set_self (by omega)]
    rfl
  · rw [if_neg e,List.getElem?_set_ne (by omega)]
theorem sA {t:List iq} {i:Int} (h0:0≤i) (h1:i<(t.length:Int)) (b:iw) {j:Int} (hj:0≤j):(nth (t.set i.toNat (kT (nth t i) b)) j).live=(nth t j).live∧(nth (t.set i.toNat (kT (nth t i) b)) j).parent=(nth t j).parent:=by
  rw [DL h0 h1 hj]
  split
  · rename_i e
    subst e
    exact ⟨rfl,rfl⟩
  · exact ⟨rfl,rfl⟩
theorem Bv {t:List iq} {i:Int} (h0:0≤i) (h1:i<(t.length:Int)) (b:iw) (j:Int):ji (t.set i.toNat (kT (nth t i) b)) j=ji t j:=by
  unfold ji
  cases hj:iE j 0 4
  · rfl
  · rw [(sA h0 h1 b (jb.1 hj).1).1]
theorem xM {t:List iq} {i:Int} (h0:0≤i) (h1:i<(t.length:Int)) (b:iw):∀ (n:Nat) (j:Int),leads (t.set i.toNat (kT (nth t i) b)) n j=leads t n j
  | 0,j=>rfl
  | n+1,j=>by
    unfold leads
    rw [Bv h0 h1]
    cases hv:ji t j
    · rfl
    · have:=(lC hv).1
      have e:up (t.set i.toNat (kT (nth t i) b)) j=up t j:=(sA h0 h1 b this).2
      rw [e,xM h0 h1 b n (up t j)]
theorem Tr.set {t:List iq} (h:Tr t) {i:Int} (h0:0≤i) (h4:i≤4) (hv:(nth t i).live=true) {b:iw} (hb:i7 b=true)
    (hs:i7 ⟨Kx.kh iw.cd t - (nth t i).iL.cd+b.cd,Kx.kh iw.im t - (nth t i).iL.im+b.im,Kx.kh iw.iC t - (nth t i).iL.iC+b.iC⟩=true) :
    Tr (t.set i.toNat (kT (nth t i) b))∧∀ f:iw→Int,Kx.kh f (t.set i.toNat (kT (nth t i) b))=Kx.kh f t - f (nth t i).iL+f b:=by
  have hl:=h.len
  have hi:i<(t.length:Int):=by omega
  have hg:=lj (l:=t) h0 hi
  have ht:∀ f:iw→Int,Kx.kh f (t.set i.toNat (kT (nth t i) b))=Kx.kh f t - f (nth t i).iL+f b:=fun f=>by
    rw [AH f t i.toNat _ _ hg]
    have e1:rW f (nth t i)=f (nth t i).iL:=if_pos hv
    have e2:rW f (kT (nth t i) b)=f b:=if_pos hv
    rw [e1,e2]
  have hbal:∀ r,r ∈ t.set i.toNat (kT (nth t i) b)→i7 r.iL=true:=fun r hr=>by
    rcases List.mem_or_eq_of_mem_set hr with q | q
    · exact h.iL r q
    · rw [q];exact hb
  have hl':(t.set i.toNat (kT (nth t i) b)).length=5:=by rw [List.length_set];exact hl
  refine ⟨⟨hl',?_,?_,?_,hbal,?_,?_⟩,ht⟩
  · rw [(sA h0 hi b (by omega)).1];exact h.wB
  · rw [(sA h0 hi b (by omega)).2];exact h.EY
  · intro r hr hd
    rcases List.mem_or_eq_of_mem_set hr with q | q
    · exact h.dead r q hd
    · rw [q] at hd
      have:(nth t i).live=false:=hd
      rw [hv] at this;cases this
  · intro k r hr hlv
    rw [xM h0 hi]
    have hk:k<(t.set i.toNat (kT (nth t i) b)).length:=jg hr
    have e1:=qN hr
    have e2:=(sA h0 hi b (j:=(k:Int)) (by omega)).1
    rw [e1,hlv] at e2
    exact h.lead k (nth t (k:Int)) (lj (l:=t) (i:=(k:Int)) (by omega) (by omega)) e2.symm
  · obtain ⟨a1,a2,a3⟩:=rm _ ⟨0,0,0⟩ 0 hbal (by omega) (by omega) Ba
    have e:jc ⟨0,0,0⟩ (t.set i.toNat (kT (nth t i) b))=⟨Kx.kh iw.cd t - (nth t i).iL.cd+b.cd,Kx.kh iw.im t - (nth t i).iL.im+b.im,Kx.kh iw.iC t - (nth t i).iL.iC+b.iC⟩:=by
      generalize jc ⟨0,0,0⟩ (t.set i.toNat (kT (nth t i) b))=q at *
      obtain ⟨q1,q2,q3⟩:=q
      simp only [Int.zero_add,ht] at a1 a2 a3
      subst a1 a2 a3
      rfl
    rw [e];exact hs
end Go.Kx
/- Plain laws: who is B0, who runs, who D8, as the laws ask. No program in sight. -/
namespace Go.Kx
open Go
set_option linter.unusedVariables false
set_option linter.unusedSimpArgs false
set_option maxRecDepth 10000
structure Sk where
  gen:Int
  kind:Int
  box:Int
  iN:Int
  ib:List Int
def kj (o:bh):Sk:=⟨o.gen,o.kind,o.box,o.iN,o.ib⟩
theorem zS {α γ β:Type} {s:α→γ} {p:Nat→α→Bool} {q:Nat→γ→Bool} {h:Nat→α→β} {r:Nat→γ→β} (hp:∀ k y,p k y=q k (s y)) (hh:∀ k y,h k y=r k (s y)):∀ (l:List α) (k:Nat),kP p h k l=kP q r k (l.map s)
  | [],_=>rfl
  | y::l,k=>by
    unfold kP
    simp only [List.map_cons,kP]
    rw [hp,hh,zS hp hh l (k+1)]
theorem v5 {l:List bh} (i:Int) (h0:0≤i) (h1:i<(l.length:Int)):(l.map kj)[i.toNat]?=some (kj (nth l i)):=by
  rw [List.getElem?_map,lj h0 h1];rfl
theorem kS {l m:List bh} (h:l.map kj=m.map kj) {i:Int} (h0:0≤i) (h1:i<(l.length:Int)):kj (nth l i)=kj (nth m i):=by
  have hl:l.length=m.length:=by simpa using congrArg List.length h
  have a:=v5 i h0 h1
  rw [h,v5 i h0 (by omega)] at a
  exact (Option.some.inj a).symm
theorem tU {l m:List bh} (h:l.map kj=m.map kj) {i:Int} (h0:0≤i) (h1:i<(l.length:Int)):jL l i=jL m i:=by
  have e:=kS h h0 h1
  have ek:(nth l i).kind=(nth m i).kind:=congrArg Sk.kind e
  have el:(nth l i).ib=(nth m i).ib:=congrArg Sk.ib e
  unfold jL
  have key:∀ x:List bh,kP (sF x i) (fun k _=>(k:Int)) 0 x=kP (fun (k:Nat) (y:Sk)=>(decide ((k:Int) > 0)&&(y.kind != 0&&((y.box==i)&&((nth x i).kind==1)))) || (nth x i).ib.contains (k:Int)) (fun k _=>(k:Int)) 0 (x.map kj):=fun x=>zS (s:=kj) (p:=sF x i) (q:=fun (k:Nat) (y:Sk)=>(decide ((k:Int) > 0)&&(y.kind != 0&&((y.box==i)&&((nth x i).kind==1)))) || (nth x i).ib.contains (k:Int)) (h:=fun k _=>(k:Int)) (r:=fun k _=>(k:Int)) (fun k y=>rfl) (fun k y=>rfl) x 0
  rw [key l,key m,h,ek,el]
theorem sx {a b:bh} (h:kj a=kj b) (now:Int):iY a now=iY b now:=by
  unfold iY
  rw [show a.kind=b.kind from congrArg Sk.kind h,show a.iN=b.iN from congrArg Sk.iN h]
theorem m6 {l m:List bh} (hl:Ar l) (h:l.map kj=m.map kj) {now k:Int} (r:Reaches l now k):Reaches m now k:=by
  have hlen:=hl.len
  induction r with
  | root=>exact .root
  | step q1 q2 q3 ih =>
    obtain ⟨i0,i9⟩:=q1.oI hl
    obtain ⟨k0,k1⟩:=l8 q2
    rw [tU h i0 (by omega)] at q2
    rw [sx (kS h k0 k1)] at q3
    exact .step ih q2 q3
theorem Ar.kj {l m:List bh} (hl:Ar l) (h:l.map kj=m.map kj) (ok:∀ o,o ∈ m→jF o=true):Ar m:=by
  have hlen:l.length=m.length:=by simpa using congrArg List.length h
  have h10:=hl.len
  have e0:=kS h (i:=0) (by omega) (by omega)
  refine ⟨by omega,?_,?_,?_,ok,?_,?_⟩
  · rw [← hl.sV];exact (congrArg Sk.kind e0).symm
  · rw [← hl.yI];exact (congrArg Sk.box e0).symm
  · rw [← hl.zq];exact (congrArg Sk.iN e0).symm
  · intro o ho y hy y0
    obtain ⟨k,hk⟩:=List.getElem?_of_mem ho
    have hkl:=jg hk
    have e:=kS h (i:=(k:Int)) (by omega) (by omega)
    have el:(nth l (k:Int)).ib=o.ib:=by rw [show o=nth m (k:Int) from (qN hk).symm];exact congrArg Sk.ib e
    have hm:=(hl.at (i:=(k:Int)) (by omega) (by omega)).2
    have y9:=((nY (ok o ho)).2 y hy).2
    have:=hl.ib _ hm y (by rw [el];exact hy) y0
    rwa [show (nth l y).kind=(nth m y).kind from congrArg Sk.kind (kS h y0 (by omega))] at this
  · intro k o hk k0 hne b0
    have hkl:=jg hk
    have e:=kS h (i:=(k:Int)) (by omega) (by omega)
    have eo:o=nth m (k:Int):=(qN hk).symm
    have eb:(nth l (k:Int)).box=o.box:=by rw [eo];exact congrArg Sk.box e
    have ek:(nth l (k:Int)).kind=o.kind:=by rw [eo];exact congrArg Sk.kind e
    have b9:=jb.1 (oo (ok o (List.mem_of_getElem? hk)) (by simpa using hne)).1
    have:=hl.box k (nth l (k:Int)) (lj (l:=l) (i:=(k:Int)) (by omega) (by omega)) k0 (by rw [ek];exact hne) (by rw [eb];exact b0)
    rw [eb] at this
    rwa [show (nth l o.box).kind=(nth m o.box).kind from congrArg Sk.kind (kS h b0 (by omega))] at this
end Go.Kx
