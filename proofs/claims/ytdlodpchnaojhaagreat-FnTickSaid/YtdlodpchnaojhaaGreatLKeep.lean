/- Plain laws: what trees keep when they pay, are paid back, split, give and drop. No program in sight. -/
import Derived.Test.YtdlodpchnaojhaaGreatLTaps
import Derived.Test.YtdlodpchnaojhaaGreatLDrawP
namespace Go.Kx
open Go
set_option linter.unusedVariables false
set_option linter.unusedSimpArgs false
set_option maxRecDepth 10000
def jG (f:ig→Int):List ir→Int
  | []=>0
  | r::t=>(if r.live then f r.iL else 0)+jG f t
def um (f:ig→Int) (r:ir):Int:=if r.live then f r.iL else 0
theorem D9 (f:ig→Int):∀ (t:List ir) (k:Nat) (r z:ir),t[k]?=some r→jG f (t.set k z)=jG f t - um f r+um f z
  | [],k,r,z,h=>by simp at h
  | x::t,0,r,z,h=>by
    simp only [List.getElem?_cons_zero,Option.some.injEq] at h
    subst h
    show um f z+jG f t=um f x+jG f t - um f x+um f z
    omega
  | x::t,k+1,r,z,h=>by
    rw [List.getElem?_cons_succ] at h
    have:=D9 f t k r z h
    show um f x+jG f (t.set k z)=um f x+jG f t - um f r+um f z
    omega
theorem tR:∀ (t:List ir) (s:ig) (B:Int),(∀ r,r ∈ t→iY r.iL=true)→0≤B→B+1000000 * (t.length:Int)≤1000000000→uz s B →
    (ju s t).bh=s.bh+jG ig.bh t∧(ju s t).ib=s.ib+jG ig.ib t∧(ju s t).ik=s.ik+jG ig.ik t
  | [],s,B,_,_,_,_=>⟨(Int.add_zero _).symm,(Int.add_zero _).symm,(Int.add_zero _).symm⟩
  | x::t,s,B,h,hB,hL,hs=>by
    have hx:=h x (by simp)
    simp only [List.length_cons] at hL
    obtain ⟨w1,w2,w3,w4⟩:=xp hs hx (by omega)
    have e:ju s (x::t)=ju (if x.live then iV s x.iL else s) t:=rfl
    have ht:∀ r,r ∈ t→iY r.iL=true:=fun r hr=>h r (by simp [hr])
    have d:∀ f:ig→Int,jG f (x::t)=(if x.live then f x.iL else 0)+jG f t:=fun f=>rfl
    rw [e,d,d,d]
    cases hxl:x.live
    · obtain ⟨a1,a2,a3⟩:=tR t s B ht hB (by omega) hs
      simp only [Bool.false_eq_true,if_false]
      exact ⟨by omega,by omega,by omega⟩
    · obtain ⟨a1,a2,a3⟩:=tR t (iV s x.iL) (B+1000000) ht (by omega) (by omega) w4
      simp only [if_true]
      exact ⟨by omega,by omega,by omega⟩
theorem Ee:uz ⟨0,0,0⟩ 0:=by unfold uz;decide
theorem Tr.jG {t:List ir} (h:Tr t):(ju ⟨0,0,0⟩ t).bh=jG ig.bh t∧(ju ⟨0,0,0⟩ t).ib=jG ig.ib t∧(ju ⟨0,0,0⟩ t).ik=jG ig.ik t:=by
  have hl:=h.len
  obtain ⟨a,b,c⟩:=tR t ⟨0,0,0⟩ 0 h.iL (by omega) (by omega) Ee
  simp only [Int.zero_add] at a b c
  exact ⟨a,b,c⟩
theorem Cp {t:List ir} {i j:Int} {z:ir} (h0:0≤i) (h1:i<(t.length:Int)) (hj:0≤j):nth (t.set i.toNat z) j=if i=j then z else nth t j:=by
  unfold nth
  by_cases e:i=j
  · subst e
    rw [if_pos rfl,List.getElem?_set_self (by omega)]
    rfl
  · rw [if_neg e,List.getElem?_set_ne (by omega)]
theorem u5 {t:List ir} {i:Int} (h0:0≤i) (h1:i<(t.length:Int)) (b:ig) {j:Int} (hj:0≤j):(nth (t.set i.toNat (l7 (nth t i) b)) j).live=(nth t j).live∧(nth (t.set i.toNat (l7 (nth t i) b)) j).parent=(nth t j).parent:=by
  rw [Cp h0 h1 hj]
  split
  · rename_i e
    subst e
    exact ⟨rfl,rfl⟩
  · exact ⟨rfl,rfl⟩
theorem zE {t:List ir} {i:Int} (h0:0≤i) (h1:i<(t.length:Int)) (b:ig) (j:Int):jl (t.set i.toNat (l7 (nth t i) b)) j=jl t j:=by
  unfold jl
  cases hj:iE j 0 4
  · rfl
  · rw [(u5 h0 h1 b (i7.1 hj).1).1]
theorem Ba {t:List ir} {i:Int} (h0:0≤i) (h1:i<(t.length:Int)) (b:ig):∀ (n:Nat) (j:Int),leads (t.set i.toNat (l7 (nth t i) b)) n j=leads t n j
  | 0,j=>rfl
  | n+1,j=>by
    unfold leads
    rw [zE h0 h1]
    cases hv:jl t j
    · rfl
    · have:=(kX hv).1
      have e:up (t.set i.toNat (l7 (nth t i) b)) j=up t j:=(u5 h0 h1 b this).2
      rw [e,Ba h0 h1 b n (up t j)]
theorem Tr.set {t:List ir} (h:Tr t) {i:Int} (h0:0≤i) (h4:i≤4) (hv:(nth t i).live=true) {b:ig} (hb:iY b=true)
    (hs:iY ⟨Kx.jG ig.bh t - (nth t i).iL.bh+b.bh,Kx.jG ig.ib t - (nth t i).iL.ib+b.ib,Kx.jG ig.ik t - (nth t i).iL.ik+b.ik⟩=true) :
    Tr (t.set i.toNat (l7 (nth t i) b))∧∀ f:ig→Int,Kx.jG f (t.set i.toNat (l7 (nth t i) b))=Kx.jG f t - f (nth t i).iL+f b:=by
  have hl:=h.len
  have hi:i<(t.length:Int):=by omega
  have hg:=ky (l:=t) h0 hi
  have ht:∀ f:ig→Int,Kx.jG f (t.set i.toNat (l7 (nth t i) b))=Kx.jG f t - f (nth t i).iL+f b:=fun f=>by
    rw [D9 f t i.toNat _ _ hg]
    have e1:um f (nth t i)=f (nth t i).iL:=if_pos hv
    have e2:um f (l7 (nth t i) b)=f b:=if_pos hv
    rw [e1,e2]
  have hbal:∀ r,r ∈ t.set i.toNat (l7 (nth t i) b)→iY r.iL=true:=fun r hr=>by
    rcases List.mem_or_eq_of_mem_set hr with q | q
    · exact h.iL r q
    · rw [q];exact hb
  have hl':(t.set i.toNat (l7 (nth t i) b)).length=5:=by rw [List.length_set];exact hl
  refine ⟨⟨hl',?_,?_,?_,hbal,?_,?_⟩,ht⟩
  · rw [(u5 h0 hi b (by omega)).1];exact h.yb
  · rw [(u5 h0 hi b (by omega)).2];exact h.Kt
  · intro r hr hd
    rcases List.mem_or_eq_of_mem_set hr with q | q
    · exact h.dead r q hd
    · rw [q] at hd
      have:(nth t i).live=false:=hd
      rw [hv] at this;cases this
  · intro k r hr hlv
    rw [Ba h0 hi]
    have hk:k<(t.set i.toNat (l7 (nth t i) b)).length:=jv hr
    have e1:=vW hr
    have e2:=(u5 h0 hi b (j:=(k:Int)) (by omega)).1
    rw [e1,hlv] at e2
    exact h.lead k (nth t (k:Int)) (ky (l:=t) (i:=(k:Int)) (by omega) (by omega)) e2.symm
  · obtain ⟨a1,a2,a3⟩:=tR _ ⟨0,0,0⟩ 0 hbal (by omega) (by omega) Ee
    have e:ju ⟨0,0,0⟩ (t.set i.toNat (l7 (nth t i) b))=⟨Kx.jG ig.bh t - (nth t i).iL.bh+b.bh,Kx.jG ig.ib t - (nth t i).iL.ib+b.ib,Kx.jG ig.ik t - (nth t i).iL.ik+b.ik⟩:=by
      generalize ju ⟨0,0,0⟩ (t.set i.toNat (l7 (nth t i) b))=q at *
      obtain ⟨q1,q2,q3⟩:=q
      simp only [Int.zero_add,ht] at a1 a2 a3
      subst a1 a2 a3
      rfl
    rw [e];exact hs
theorem CF {a b:ig} (h:ll a b=true):(tH b a)=⟨b.bh - a.bh,b.ib - a.ib,b.ik - a.ik⟩∧iY ⟨b.bh - a.bh,b.ib - a.ib,b.ik - a.ik⟩=true:=by
  unfold ll at h
  simp only [Bool.and_eq_true,decide_eq_true_eq] at h
  obtain ⟨h1,h2,h3,h4,h5⟩:=h
  have a1:=jk.1 h1
  have a2:=jk.1 h2
  refine ⟨?_,jk.2 ⟨by simp only;omega,by simp only;omega,by simp only;omega⟩⟩
  unfold tH
  rw [iI (by omega) (by omega),iI (by omega) (by omega),iI (by omega) (by omega)]
theorem yN {t:List ir} {f:Int} {a:ig} (h:(jq t f a).2=true):Tr (jq t f a).1∧iY a=true∧∀ g:ig→Int,(∀ x y:ig,g ⟨x.bh - y.bh,x.ib - y.ib,x.ik - y.ik⟩=g x - g y)→jG g (jq t f a).1=jG g t - g a:=by
  obtain ⟨h1,h2⟩:=y6 h
  have hT:=ko.1 h1
  obtain ⟨f0,f4⟩:=kX h2
  have hlv:(nth t f).live=true:=by
    unfold jl at h2
    simp only [Bool.and_eq_true] at h2
    exact h2.2
  unfold jq at *
  rw [h1,h2] at *
  simp only [Bool.and_self,if_true] at *
  cases hf:ll a (nth t f).iL
  · rw [hf] at h;simp at h
  · simp only [if_true]
    obtain ⟨e,ok⟩:=CF hf
    have ha:iY a=true:=by
      unfold ll at hf
      simp only [Bool.and_eq_true] at hf
      exact hf.1
    rw [e]
    have hl:=hT.len
    have hm:nth t f ∈ t:=kT f0 (by omega)
    have hS:=jk.1 hT.sum
    obtain ⟨t1,t2,t3⟩:=hT.jG
    have ha':=jk.1 ha
    have ok':=jk.1 ok
    obtain ⟨_,q⟩:=qW t ⟨0,0,0⟩ 0 hT.iL (by omega) (by omega) ⟨by decide,by decide⟩ ⟨by decide,by decide⟩ ⟨by decide,by decide⟩
    obtain ⟨q1,q2,q3⟩:=q _ hm hlv
    simp only at ok'
    obtain ⟨r1,r2⟩:=hT.set f0 f4 hlv ok (jk.2 ⟨by simp only;omega,by simp only;omega,by simp only;omega⟩)
    refine ⟨r1,ha,fun g hg=>?_⟩
    rw [r2 g,hg]
    omega
end Go.Kx
/- Plain laws: who is pV, who runs, who pN, as the laws ask. No program in sight. -/
namespace Go.Kx
open Go
set_option linter.unusedVariables false
set_option linter.unusedSimpArgs false
set_option maxRecDepth 10000
theorem sw {p:dW} {now y:Int} (h:y ∈ threads p now):0≤y∧y≤9:=(uB h).2
theorem BR {p:dW} {now y:Int} (h:y ∈ threads p now):(nth p.heap.ag y).kind=4∧jy (nth p.heap.ag y) now=false:=by
  obtain ⟨ok,y0,y9⟩:=uB h
  have ar:=jS ok
  unfold threads at h
  rw [if_pos ok] at h
  obtain ⟨i,b,h1,h2,h3⟩:=ug.1 h
  simp only [Nat.zero_add,Bool.and_eq_true,beq_iff_eq] at h2 h3
  obtain ⟨hb,hk⟩:=h2
  subst h3
  rw [hb] at h1
  refine ⟨hk,zh ar (((tz ar now).2 i).1 h1) fun q=>?_⟩
  rw [q,ar.tO] at hk
  cases hk
theorem HM {p:dW} (h:iS p=true) (i:Int):jl p.tree (kN p i)=true:=by
  have hT:=ko.1 (lB h)
  unfold kN
  split
  · rename_i q
    simp only [Bool.and_eq_true] at q
    exact q.2
  · unfold jl
    rw [hT.yb];rfl
theorem oW {p:dW} {now:Int} (h:pO p now=false):jY p now ∈ runnable p now:=by
  unfold pO at h
  simp only [Bool.or_eq_false_iff] at h
  exact yE _ _ _ h.1
theorem Al {p:dW} {now:Int} (ok:iS p=true) {i:Int} (h:i ∈ runnable p now):(jq p.tree (kN p (nth p.heap.ag i).res) ⟨0,0,1⟩).2=true:=by
  unfold runnable at h
  obtain ⟨_,hm⟩:=List.mem_filter.1 h
  unfold qi at hm
  simp only [Bool.and_eq_true,decide_eq_true_eq] at hm
  have hT:=ko.1 (lB ok)
  obtain ⟨r0,r4⟩:=vr p (nth p.heap.ag i).res
  have hl:=hT.len
  have hb:=hT.iL _ (kT (l:=p.tree) (i:=kN p (nth p.heap.ag i).res) r0 (by omega))
  have hb':=jk.1 hb
  have hc:(nth p.tree (kN p (nth p.heap.ag i).res)).iL.ik > 0:=hm.2
  have hf:ll ⟨0,0,1⟩ (nth p.tree (kN p (nth p.heap.ag i).res)).iL=true:=by
    unfold ll
    rw [hb]
    simp only [show iY ⟨0,0,1⟩=true from by decide,Bool.true_and,Bool.and_eq_true,decide_eq_true_eq]
    exact ⟨by omega,by omega,by omega⟩
  unfold jq
  rw [lB ok,HM ok,hf]
  rfl
theorem Jc {p:dW} {now:Int} (ok:iS p=true) {i:Int} (h:i ∈ runnable p now):(jU (jq p.tree (kN p (nth p.heap.ag i).res) ⟨0,0,1⟩).1).ik=(jU p.tree).ik - 1∧(jU (jq p.tree (kN p (nth p.heap.ag i).res) ⟨0,0,1⟩).1).bh=(jU p.tree).bh∧(jU (jq p.tree (kN p (nth p.heap.ag i).res) ⟨0,0,1⟩).1).ib=(jU p.tree).ib:=by
  have hT:=ko.1 (lB ok)
  obtain ⟨q,_,k⟩:=yN (Al ok h)
  unfold jU
  rw [if_pos (ko.2 q),if_pos (lB ok),q.jG.1,q.jG.2.1,q.jG.2.2,hT.jG.1,hT.jG.2.1,hT.jG.2.2,k ig.ik (fun _ _=>rfl),k ig.bh (fun _ _=>rfl),k ig.ib (fun _ _=>rfl)]
  exact ⟨rfl,Int.sub_zero _,Int.sub_zero _⟩
structure Sk where
  gen:Int
  kind:Int
  box:Int
  iU:Int
  il:List Int
def lr (o:cd):Sk:=⟨o.gen,o.kind,o.box,o.iU,o.il⟩
theorem BS {α γ β:Type} {s:α→γ} {p:Nat→α→Bool} {q:Nat→γ→Bool} {h:Nat→α→β} {r:Nat→γ→β} (hp:∀ k y,p k y=q k (s y)) (hh:∀ k y,h k y=r k (s y)):∀ (l:List α) (k:Nat),kE p h k l=kE q r k (l.map s)
  | [],_=>rfl
  | y::l,k=>by
    unfold kE
    simp only [List.map_cons,kE]
    rw [hp,hh,BS hp hh l (k+1)]
theorem yU {l:List cd} (i:Int) (h0:0≤i) (h1:i<(l.length:Int)):(l.map lr)[i.toNat]?=some (lr (nth l i)):=by
  rw [List.getElem?_map,ky h0 h1];rfl
theorem ql {l m:List cd} (h:l.map lr=m.map lr) {i:Int} (h0:0≤i) (h1:i<(l.length:Int)):lr (nth l i)=lr (nth m i):=by
  have hl:l.length=m.length:=by simpa using congrArg List.length h
  have a:=yU i h0 h1
  rw [h,yU i h0 (by omega)] at a
  exact (Option.some.inj a).symm
theorem Ft {l m:List cd} (h:l.map lr=m.map lr) {i:Int} (h0:0≤i) (h1:i<(l.length:Int)):lE l i=lE m i:=by
  have e:=ql h h0 h1
  have ek:(nth l i).kind=(nth m i).kind:=congrArg Sk.kind e
  have el:(nth l i).il=(nth m i).il:=congrArg Sk.il e
  unfold lE
  have key:∀ x:List cd,kE (wz x i) (fun k _=>(k:Int)) 0 x=kE (fun (k:Nat) (y:Sk)=>(decide ((k:Int) > 0)&&(y.kind != 0&&((y.box==i)&&((nth x i).kind==1)))) || (nth x i).il.contains (k:Int)) (fun k _=>(k:Int)) 0 (x.map lr):=fun x=>BS (s:=lr) (p:=wz x i) (q:=fun (k:Nat) (y:Sk)=>(decide ((k:Int) > 0)&&(y.kind != 0&&((y.box==i)&&((nth x i).kind==1)))) || (nth x i).il.contains (k:Int)) (h:=fun k _=>(k:Int)) (r:=fun k _=>(k:Int)) (fun k y=>rfl) (fun k y=>rfl) x 0
  rw [key l,key m,h,ek,el]
theorem BF {a b:cd} (h:lr a=lr b) (now:Int):jy a now=jy b now:=by
  unfold jy
  rw [show a.kind=b.kind from congrArg Sk.kind h,show a.iU=b.iU from congrArg Sk.iU h]
theorem xE {l m:List cd} (hl:Ar l) (h:l.map lr=m.map lr) {now k:Int} (r:Reaches l now k):Reaches m now k:=by
  have hlen:=hl.len
  induction r with
  | root=>exact .root
  | step q1 q2 q3 ih =>
    obtain ⟨i0,i9⟩:=q1.xk hl
    obtain ⟨k0,k1⟩:=uf q2
    rw [Ft h i0 (by omega)] at q2
    rw [BF (ql h k0 k1)] at q3
    exact .step ih q2 q3
theorem ER {l m:List cd} (hl:Ar l) (hm:Ar m) (h:l.map lr=m.map lr) (now:Int):reach l now=reach m now:=by
  have a:=tz hl now
  have b:=tz hm now
  refine List.ext_getElem? fun k=>?_
  have hk:(reach l now)[k]?=some true ↔ (reach m now)[k]?=some true:=by
    rw [a.2 k,b.2 k]
    exact ⟨fun q=>xE hl h q,fun q=>xE hm h.symm q⟩
  cases ha:(reach l now)[k]? with
  | none =>
    have:=List.getElem?_eq_none_iff.1 ha
    exact (List.getElem?_eq_none (by rw [b.1];rw [a.1] at this;exact this)).symm
  | some x =>
    have hlt:=jv ha
    have hkm:k<(reach m now).length:=by rw [b.1];rw [a.1] at hlt;exact hlt
    have hb:(reach m now)[k]?=some ((reach m now)[k]'hkm):=List.getElem?_eq_getElem _
    rw [ha,hb] at hk
    rw [hb]
    generalize (reach m now)[k]'hkm=y at *
    cases x <;> cases y <;> simp at hk ⊢
theorem Ar.lr {l m:List cd} (hl:Ar l) (h:l.map lr=m.map lr) (ok:∀ o,o ∈ m→jt o=true):Ar m:=by
  have hlen:l.length=m.length:=by simpa using congrArg List.length h
  have h10:=hl.len
  have e0:=ql h (i:=0) (by omega) (by omega)
  refine ⟨by omega,?_,?_,?_,ok,?_,?_⟩
  · rw [← hl.tO];exact (congrArg Sk.kind e0).symm
  · rw [← hl.Cl];exact (congrArg Sk.box e0).symm
  · rw [← hl.B5];exact (congrArg Sk.iU e0).symm
  · intro o ho y hy y0
    obtain ⟨k,hk⟩:=List.getElem?_of_mem ho
    have hkl:=jv hk
    have e:=ql h (i:=(k:Int)) (by omega) (by omega)
    have el:(nth l (k:Int)).il=o.il:=by rw [show o=nth m (k:Int) from (vW hk).symm];exact congrArg Sk.il e
    have hm:=(hl.at (i:=(k:Int)) (by omega) (by omega)).2
    have y9:=((pL (ok o ho)).2 y hy).2
    have:=hl.il _ hm y (by rw [el];exact hy) y0
    rwa [show (nth l y).kind=(nth m y).kind from congrArg Sk.kind (ql h y0 (by omega))] at this
  · intro k o hk k0 hne b0
    have hkl:=jv hk
    have e:=ql h (i:=(k:Int)) (by omega) (by omega)
    have eo:o=nth m (k:Int):=(vW hk).symm
    have eb:(nth l (k:Int)).box=o.box:=by rw [eo];exact congrArg Sk.box e
    have ek:(nth l (k:Int)).kind=o.kind:=by rw [eo];exact congrArg Sk.kind e
    have b9:=i7.1 (oN (ok o (List.mem_of_getElem? hk)) (by simpa using hne)).1
    have:=hl.box k (nth l (k:Int)) (ky (l:=l) (i:=(k:Int)) (by omega) (by omega)) k0 (by rw [ek];exact hne) (by rw [eb];exact b0)
    rw [eb] at this
    rwa [show (nth l o.box).kind=(nth m o.box).kind from congrArg Sk.kind (ql h b0 (by omega))] at this
theorem Fm (p:dW) (me now:Int):p.heap.ag.map lr=(pN p me now).map lr:=by
  unfold pN
  rw [List.map_map]
  refine List.map_congr_left fun o _=>?_
  show lr o=lr (if wo p me now o then xT o else o)
  split <;> rfl
theorem HT {p:dW} {me now:Int} (h:∀ o,o ∈ p.heap.ag→jt o=true):∀ o,o ∈ pN p me now→jt o=true:=by
  intro o ho
  obtain ⟨x,hx,rfl⟩:=List.mem_map.1 (show o ∈ p.heap.ag.map _ from ho)
  have hok:=h x hx
  split
  · rename_i q
    unfold wo at q
    simp only [Bool.and_eq_true,decide_eq_true_eq] at q
    have hk:(x.kind==0)=false:=by
      cases hk:x.kind==0
      · rfl
      · unfold jt at hok
        simp only [hk,cond_true,Bool.and_eq_true,decide_eq_true_eq] at hok
        rw [hok.2.2] at q
        simp [blank] at q
    unfold jt at hok ⊢
    have hk':((xT x).kind==0)=false:=hk
    rw [hk] at hok
    rw [hk']
    simp only [cond_false,Bool.and_eq_true] at hok ⊢
    obtain ⟨a1,a2,a3,a4,a5,a6,a7,a8⟩:=hok
    refine ⟨a1,a2,a3,a4,a5,a6,a7,?_⟩
    cases h4:x.kind != 4
    · rw [h4] at a8
      have h4':((xT x).kind != 4)=false:=h4
      rw [h4']
      simp only [cond_false,Bool.and_eq_true] at a8 ⊢
      exact ⟨rfl,show iE (-1) (-1) 999=true by decide,a8.2.2⟩
    · rw [h4] at a8
      simp only [cond_true,Bool.and_eq_true,beq_iff_eq] at a8
      omega
  · exact hok
end Go.Kx
/- The plain law of 'FnWoken'. No program in sight. -/
namespace Go.Kx
open Go
set_option linter.unusedVariables false
set_option linter.unusedSimpArgs false
set_option maxRecDepth 10000
theorem IT {p:dW} (h:iS p=true) (me now:Int):Ar (pN p me now):=by
  have ar:=jS h
  exact ar.lr (Fm p me now) (HT ar.ok)
theorem Iw {p:dW} (h:iS p=true) (me now:Int):iS (nv p (pN p me now))=true:=by
  have hw:=kf.2 (IT h me now)
  unfold iS ku at *
  simp only [Bool.and_eq_true] at h ⊢
  obtain ⟨a,b,c,⟨_,d⟩,e⟩:=h
  exact ⟨a,b,c,⟨hw,d⟩,e⟩
theorem Jj {l m:List cd} (h:l.map cd.bh=m.map cd.bh) (hl:∀ o,o ∈ l→jt o=true) (hm:∀ o,o ∈ m→jt o=true):((l.take 10).filter jt).foldl (fun n o=>IntKind.i64.wrap (n+o.bh)) 0=((m.take 10).filter jt).foldl (fun n o=>IntKind.i64.wrap (n+o.bh)) 0:=by
  rw [List.filter_eq_self.2 fun o ho=>hl o (List.mem_of_mem_take ho),List.filter_eq_self.2 fun o ho=>hm o (List.mem_of_mem_take ho)]
  have key:∀ (x:List cd) (s:Int),x.foldl (fun n o=>IntKind.i64.wrap (n+o.bh)) s=(x.map cd.bh).foldl (fun n k=>IntKind.i64.wrap (n+k)) s:=fun x s=>by rw [List.foldl_map]
  rw [key,key,List.map_take,List.map_take,h]
theorem KD {p:dW} (h:iS p=true) (me now:Int):kF (nv p (pN p me now))=kF p:=by
  have ar:=jS h
  have hp:(pN p me now).map cd.bh=p.heap.ag.map cd.bh:=by
    unfold pN
    rw [List.map_map]
    refine List.map_congr_left fun o _=>?_
    show cd.bh (if wo p me now o then xT o else o)=o.bh
    split <;> rfl
  have e:held (nv p (pN p me now))=held p:=Jj hp (IT h me now).ok ar.ok
  unfold kF
  rw [e]
  rfl
end Go.Kx
/- The plain law of 'FnFair'. No program in sight. -/
namespace Go.Kx
open Go
set_option linter.unusedVariables false
set_option linter.unusedSimpArgs false
set_option maxRecDepth 10000
theorem KZ {N:Nat} (hN:im≤N) {l:List Int} (hl:l.length<im):qb N l l=some true:=by
  unfold qb
  rw [kn l (fun _ _=>true) (.inl (l.length:Int)) (.inr false) (Nat.lt_of_lt_of_le hl hN)]
  · rw [show allI (fun _ _=>true) 0 l=true from mB.2 fun _ _ _=>rfl]
    simp
  · intro k y hy hk
    simp only [jh hk,cond_true,iO,hy,Option.bind_some,bne_self_eq_false,cond_false,jm (Nat.lt_trans hk hl),if_true]
  · simp only [jg,cond_false]
theorem HR {l:List cd} {i:Int} {z:cd} (h0:0≤i) (h1:i<(l.length:Int)) (e:lr z=lr (nth l i)):(l.set i.toNat z).map lr=l.map lr:=by
  rw [List.map_set,e]
  exact nI (yU i h0 h1)
theorem Jn {o:cd} (h:jt o=true) (hk:o.kind=4) (hr:o.iR<1000000):jt (ri o)=true:=by
  have r0:=(He h).1
  have hk0:(o.kind==0)=false:=by rw [hk];rfl
  have hk4:(o.kind != 4)=false:=by rw [hk];rfl
  unfold jt at h ⊢
  have hk0':((ri o).kind==0)=false:=hk0
  have hk4':((ri o).kind != 4)=false:=hk4
  rw [hk0] at h
  rw [hk0']
  simp only [cond_false,Bool.and_eq_true] at h ⊢
  obtain ⟨a1,a2,a3,a4,a5,a6,a7,a8⟩:=h
  rw [hk4] at a8
  rw [hk4']
  simp only [cond_false,Bool.and_eq_true] at a8 ⊢
  exact ⟨a1,a2,a3,a4,a5,a6,a7,a8.1,a8.2.1,i7.2 ⟨by show 0≤IntKind.i64.wrap (o.iR+1);rw [iI (by omega) (by omega)];omega,by show IntKind.i64.wrap (o.iR+1)≤1000000;rw [iI (by omega) (by omega)];omega⟩⟩
def sB (p : dW) (now : Int) : dW := dW.mk p.label p.own (jq p.tree (kN p (nth p.heap.ag (jY p now)).res) ⟨0, 0, 1⟩).1 (iA.mk (p.heap.ag.set (jY p now).toNat (ri (nth p.heap.ag (jY p now)))) p.heap.gc) p.ij (jY p now) 0
        (ig.mk p.gE.bh p.gE.ib (IntKind.i64.wrap (p.gE.ik + 1))) p.iH p.lost
theorem GK {p:dW} {now:Int} (ok:iS p=true) (hr:pO p now=false):lC p now=(sB p now,jY p now):=by
  unfold lC
  rw [if_pos ok,hr]
  rfl
theorem yO {p:dW} {now:Int} (hr:pO p now=false):p.gE.ik<1000000∧(nth p.heap.ag (jY p now)).iR<1000000:=by
  unfold pO at hr
  simp only [Bool.or_eq_false_iff,decide_eq_false_iff_not] at hr
  omega
theorem xc {p:dW} {now:Int} (ok:iS p=true) (hr:pO p now=false):(sB p now).heap.ag.map lr=p.heap.ag.map lr∧Ar (sB p now).heap.ag:=by
  have ar:=jS ok
  obtain ⟨q0,q9⟩:=sw (List.mem_filter.1 (oW hr)).1
  have hk:=(BR (List.mem_filter.1 (oW hr)).1).1
  have hl:=ar.len
  have hs:=HR (l:=p.heap.ag) (z:=ri (nth p.heap.ag (jY p now))) q0 (by omega) rfl
  refine ⟨hs,ar.lr hs.symm fun o ho=>?_⟩
  rcases List.mem_or_eq_of_mem_set ho with q | q
  · exact ar.ok o q
  · rw [q]
    exact Jn (ar.ok _ (ar.at q0 q9).2) hk (yO hr).2
theorem z4 {p:dW} {now:Int} (ok:iS p=true) (hr:pO p now=false):iS (sB p now)=true:=by
  have hA:=kf.2 (xc ok hr).2
  have hT:=ko.2 (yN (Al ok (oW hr))).1
  obtain ⟨q0,q9⟩:=sw (List.mem_filter.1 (oW hr)).1
  have hc:=(yO hr).1
  have sp:=sK (mQ ok)
  unfold iS ku uX at *
  simp only [Bool.and_eq_true] at ok ⊢
  obtain ⟨a,b,c,⟨_,d⟩,e,f,g1,g2,g3,g4⟩:=ok
  refine ⟨a,b,hT,⟨hA,d⟩,e,f,i7.2 ⟨q0,q9⟩,rfl,?_,g4⟩
  refine jk.2 ⟨sp.1,sp.2.1,?_⟩
  show 0≤IntKind.i64.wrap (p.gE.ik+1)∧IntKind.i64.wrap (p.gE.ik+1)≤1000000
  rw [iI (by omega) (by omega)]
  omega
theorem Jz {l m:List cd} (h:l.map cd.bh=m.map cd.bh) (hl:∀ o,o ∈ l→jt o=true) (hm:∀ o,o ∈ m→jt o=true):((l.take 10).filter jt).foldl (fun n o=>IntKind.i64.wrap (n+o.bh)) 0=((m.take 10).filter jt).foldl (fun n o=>IntKind.i64.wrap (n+o.bh)) 0:=by
  rw [List.filter_eq_self.2 fun o ho=>hl o (List.mem_of_mem_take ho),List.filter_eq_self.2 fun o ho=>hm o (List.mem_of_mem_take ho)]
  have key:∀ (x:List cd) (s:Int),x.foldl (fun n o=>IntKind.i64.wrap (n+o.bh)) s=(x.map cd.bh).foldl (fun n k=>IntKind.i64.wrap (n+k)) s:=fun x s=>by rw [List.foldl_map]
  rw [key,key,List.map_take,List.map_take,h]
theorem Ea {p:dW} {now:Int} (ok:iS p=true) (hr:pO p now=false):kF (sB p now)=kF p:=by
  have ar:=jS ok
  obtain ⟨q0,q9⟩:=sw (List.mem_filter.1 (oW hr)).1
  have hl:=ar.len
  have hp:(sB p now).heap.ag.map cd.bh=p.heap.ag.map cd.bh:=by
    show (p.heap.ag.set (jY p now).toNat (ri (nth p.heap.ag (jY p now)))).map cd.bh=_
    rw [List.map_set]
    exact nI (by rw [List.getElem?_map,ky q0 (by omega)];rfl)
  have e:held (sB p now)=held p:=Jz hp (xc ok hr).2.ok ar.ok
  obtain ⟨s1,s2,s3⟩:=Jc ok (oW hr)
  have o1:=mQ ok
  have o2:=mQ (z4 ok hr)
  have hc:=(yO hr).1
  have sp:=sK o1
  unfold kF
  rw [o1,o2,e]
  simp only [if_true]
  show iV ⟨IntKind.i64.wrap ((jU (jq p.tree (kN p (nth p.heap.ag (jY p now)).res) ⟨0,0,1⟩).1).bh+held p),(jU (jq p.tree (kN p (nth p.heap.ag (jY p now)).res) ⟨0,0,1⟩).1).ib,(jU (jq p.tree (kN p (nth p.heap.ag (jY p now)).res) ⟨0,0,1⟩).1).ik⟩ ⟨p.gE.bh,p.gE.ib,IntKind.i64.wrap (p.gE.ik+1)⟩=_
  rw [s1,s2,s3,iI (n:=p.gE.ik+1) (by omega) (by omega)]
  unfold iV
  simp only
  rw [show (jU p.tree).ik - 1+(p.gE.ik+1)=(jU p.tree).ik+p.gE.ik by omega]
theorem yu {α β:Type} {p q:Nat→α→Bool} {h:Nat→α→β}:∀ (l:List α) (k:Nat),(∀ i y,l[i]?=some y→p (k+i) y=q (k+i) y)→kE p h k l=kE q h k l
  | [],_,_=>rfl
  | y::l,k,e=>by
    have h1:=e 0 y rfl
    have h2:=yu (p:=p) (q:=q) (h:=h) l (k+1) fun i z hz=>by
      have:=e (i+1) z hz
      rwa [show k+1+i=k+(i+1) by omega]
    unfold kE
    rw [Nat.add_zero] at h1
    rw [h1,h2]
theorem H8 {p x:dW} {now:Int} (hp:iS p=true) (hx:iS x=true) (h:x.heap.ag.map lr=p.heap.ag.map lr):threads x now=threads p now:=by
  have ar:=jS hp
  have ax:=jS hx
  unfold threads
  rw [if_pos hp,if_pos hx,ER ax ar h]
  refine yu _ 0 fun i y hy=>?_
  have hi:=jv hy
  have hlen:=(tz ar now).1
  have h10:=ax.len
  have h10p:=ar.len
  rw [Nat.zero_add,show (nth x.heap.ag (i:Int)).kind=(nth p.heap.ag (i:Int)).kind from congrArg Sk.kind (ql h (by omega) (by omega))]
theorem AL {α:Type} {p:Nat→α→Bool}:∀ (l:List α) (k:Nat),(kE p (fun k _=>(k:Int)) k l).Pairwise (·<·)∧∀ y,y ∈ kE p (fun k _=>(k:Int)) k l→(k:Int)≤y
  | [],_=>by simp [kE]
  | z::l,k=>by
    obtain ⟨a,b⟩:=AL (p:=p) l (k+1)
    unfold kE
    split
    · refine ⟨List.pairwise_cons.2 ⟨fun y hy=>?_,a⟩,fun y hy=>?_⟩
      · have:=b y hy;omega
      · rcases List.mem_cons.1 hy with rfl | hy
        · exact Int.le_refl _
        · have:=b y hy;omega
    · exact ⟨a,fun y hy=>by have:=b y hy;omega⟩
theorem xu (p:dW) (now:Int):(runnable p now).Pairwise (·<·):=by
  unfold runnable
  refine List.Pairwise.filter _ ?_
  unfold threads
  split
  · exact (AL _ 0).1
  · exact List.Pairwise.nil
theorem GU {last:Int}:∀ (l:List Int) (a b:Int),l.Pairwise (·<·)→(∀ y,y ∈ l→0≤y)→(0≤a→∀ y,y ∈ l→a<y)→(0≤b→∀ y,y ∈ l→b<y) →
    uq last (-1) a b l=if 0≤b then b else match l.find? (fun y=>decide (y > last)) with | some y=>y | none=>if 0≤a then a else l.headD a
  | [],a,b,_,_,_,_=>by
    unfold uq
    by_cases hb:0≤b
    · simp [hb]
    · simp only [List.find?_nil,List.headD_nil,if_neg hb]
      rw [show decide (b ≥ 0)=false from decide_eq_false hb]
      simp
  | y::l,a,b,hp,h0,ha,hb=>by
    obtain ⟨h1,h2⟩:=List.pairwise_cons.1 hp
    have y0:=h0 y (by simp)
    have g0:∀ z,z ∈ l→0≤z:=fun z hz=>h0 z (by simp [hz])
    unfold uq
    rw [show decide (y<0)=false from decide_eq_false (by omega),show (y==(-1:Int))=false from by rw [beq_eq_false_iff_ne];omega]
    simp only [Bool.false_eq_true,if_false]
    have ea:(if decide (a<0) || decide (y<a) then y else a)=if 0≤a then a else y:=by
      by_cases q:0≤a
      · have:=ha q y (by simp)
        rw [if_pos q,show decide (a<0)=false from decide_eq_false (by omega),show decide (y<a)=false from decide_eq_false (by omega)];rfl
      · rw [if_neg q,show decide (a<0)=true from decide_eq_true (by omega)];rfl
    have eb:(if decide (y > last)&&(decide (b<0) || decide (y<b)) then y else b)=if 0≤b then b else if y > last then y else b:=by
      by_cases q:0≤b
      · have:=hb q y (by simp)
        rw [if_pos q,show decide (b<0)=false from decide_eq_false (by omega),show decide (y<b)=false from decide_eq_false (by omega)];simp
      · rw [if_neg q,show decide (b<0)=true from decide_eq_true (by omega)];simp
    rw [ea,eb]
    rw [GU l _ _ h2 g0 (fun _ z hz=>by split <;> rename_i q;exact ha q z (by simp [hz]);exact h1 z hz) (fun q2 z hz=>by
      by_cases q:0≤b
      · rw [if_pos q];exact hb q z (by simp [hz])
      · rw [if_neg q] at q2 ⊢
        by_cases q3:y > last
        · rw [if_pos q3];exact h1 z hz
        · rw [if_neg q3] at q2;exact absurd q2 q)]
    by_cases q:0≤b
    · simp [q]
    · simp only [if_neg q,List.find?_cons]
      by_cases q3:y > last
      · simp [q3,y0]
      · rw [if_neg q3,if_neg q,show decide (y > last)=false from decide_eq_false q3]
        simp only
        cases l.find? (fun y=>decide (y > last)) with
        | some z=>rfl
        | none =>
          simp only [List.headD_cons]
          by_cases qa:0≤a
          · simp [qa]
          · simp [qa,y0]
def ring (l:List Int) (k:Nat):Int:=nth l ((k % l.length:Nat):Int)
theorem H9 {l:List Int} (h:0<l.length) (k:Nat):ring l k ∈ l:=by
  have:=Nat.mod_lt k h
  exact kT (by omega) (by omega)
theorem HV {l:List Int} (hp:l.Pairwise (·<·)) {k i j:Nat} (hj:j<i) (hi:i<l.length) (e:ring l (k+i)=ring l (k+j)):False:=by
  have hn:0<l.length:=by omega
  have a1:=Nat.mod_lt (k+i) hn
  have a2:=Nat.mod_lt (k+j) hn
  have g1:=ky (l:=l) (i:=(((k+i) % l.length:Nat):Int)) (by omega) (by omega)
  have g2:=ky (l:=l) (i:=(((k+j) % l.length:Nat):Int)) (by omega) (by omega)
  have e:nth l (((k+i) % l.length:Nat):Int)=nth l (((k+j) % l.length:Nat):Int):=e
  rw [e] at g1
  rw [Int.toNat_natCast] at g1 g2
  rw [List.getElem?_eq_getElem a1] at g1
  rw [List.getElem?_eq_getElem a2] at g2
  have hpw:=List.pairwise_iff_getElem.1 hp
  have e3:(k+i) % l.length=(k+j) % l.length:=by
    rcases Nat.lt_trichotomy ((k+i) % l.length) ((k+j) % l.length) with q | q | q
    · have:=hpw _ _ a1 a2 q
      rw [Option.some.inj g1,Option.some.inj g2] at this
      omega
    · exact q
    · have:=hpw _ _ a2 a1 q
      rw [Option.some.inj g1,Option.some.inj g2] at this
      omega
  have e4:=Nat.sub_mod_eq_zero_of_mod_eq e3
  rw [show k+i - (k+j)=i - j by omega,Nat.mod_eq_of_lt (by omega)] at e4
  omega
theorem GO {l:List Int} (hp:l.Pairwise (·<·)) (h0:∀ y,y ∈ l→0≤y) (hn:0<l.length) (k:Nat):ou l (ring l k) (-1)=ring l (k+1):=by
  have a1:=Nat.mod_lt k hn
  have g1:=ky (l:=l) (i:=((k % l.length:Nat):Int)) (by omega) (by omega)
  rw [Int.toNat_natCast,List.getElem?_eq_getElem a1] at g1
  have hpw:=List.pairwise_iff_getElem.1 hp
  unfold ou
  rw [GU l (-1) (-1) hp h0 (fun q=>absurd q (by decide)) (fun q=>absurd q (by decide))]
  rw [if_neg (show ¬ (0:Int)≤-1 by decide)]
  have er:ring l k=l[k % l.length]:=(Option.some.inj g1).symm
  by_cases hl:k % l.length+1<l.length
  · have e2:(k+1) % l.length=k % l.length+1:=by rw [Nat.add_mod,Nat.mod_eq_of_lt (show 1<l.length by omega),Nat.mod_eq_of_lt hl]
    have hf:l.find? (fun y=>decide (y > ring l k))=some l[k % l.length+1]:=by
      rw [List.find?_eq_some_iff_getElem]
      refine ⟨by rw [er];exact decide_eq_true (hpw _ _ a1 hl (by omega)),k % l.length+1,hl,rfl,fun j hj=>?_⟩
      rw [er]
      by_cases q:j=k % l.length
      · subst q;simp
      · have:=hpw j (k % l.length) (by omega) a1 (by omega)
        simp;omega
    rw [hf]
    have g2:=ky (l:=l) (i:=(((k+1) % l.length:Nat):Int)) (by omega) (by omega)
    rw [Int.toNat_natCast,e2,List.getElem?_eq_getElem hl] at g2
    have:ring l (k+1)=l[k % l.length+1]:=by unfold ring;rw [e2];exact (Option.some.inj g2).symm
    rw [this]
  · have e2:(k+1) % l.length=0:=by
      rw [Nat.add_mod]
      by_cases h1:l.length=1
      · rw [h1,Nat.mod_one]
      · rw [Nat.mod_eq_of_lt (show 1<l.length by omega),show k % l.length+1=l.length by omega,Nat.mod_self]
    have hf:l.find? (fun y=>decide (y > ring l k))=none:=by
      rw [List.find?_eq_none]
      intro y hy
      obtain ⟨j,hj,rfl⟩:=List.getElem_of_mem hy
      rw [er]
      by_cases q:j=k % l.length
      · subst q;simp
      · have:=hpw j (k % l.length) hj a1 (by omega)
        simp;omega
    rw [hf]
    simp only [if_neg (show ¬ (0:Int)≤-1 by decide)]
    unfold ring
    rw [e2]
    cases l with
    | nil=>simp at hn
    | cons y l=>rfl
theorem Ii {t:List ir} {f:Int} (h:(jq t f ⟨0,0,1⟩).2=true):(∀ r,jl (jq t f ⟨0,0,1⟩).1 r=jl t r)∧∀ r,0≤r→r≤4→(nth t r).iL.ik - 1≤(nth (jq t f ⟨0,0,1⟩).1 r).iL.ik∧(nth (jq t f ⟨0,0,1⟩).1 r).iL.ik≤(nth t r).iL.ik:=by
  obtain ⟨h1,h2⟩:=y6 h
  have hl:=(ko.1 h1).len
  obtain ⟨f0,f4⟩:=kX h2
  unfold jq at *
  rw [h1,h2] at *
  simp only [Bool.and_self,if_true] at *
  cases hf:ll ⟨0,0,1⟩ (nth t f).iL
  · rw [hf] at h;simp at h
  · simp only [if_true]
    refine ⟨zE f0 (by omega) _,fun r r0 r4=>?_⟩
    rw [Cp f0 (by omega) r0]
    split
    · rename_i e
      subst e
      show (nth t f).iL.ik - 1≤(tH (nth t f).iL ⟨0,0,1⟩).ik∧(tH (nth t f).iL ⟨0,0,1⟩).ik≤_
      rw [(CF hf).1]
      exact ⟨Int.le_refl _,by show (nth t f).iL.ik - 1≤_;omega⟩
    · omega
structure wB (p x:dW) (l:List Int) (k0 i:Nat) (who:List Int):Prop where
  ok:iS x=true
  w:wP x
  sz:iG x≤20000+100 * i
  sk:x.heap.ag.map lr=p.heap.ag.map lr
  wt:∀ k,0≤k→k≤9→(nth x.heap.ag k).wait=(nth p.heap.ag k).wait∧(nth x.heap.ag k).res=(nth p.heap.ag k).res
  iR:∀ k,0≤k→k≤9→k ∉ who→(nth x.heap.ag k).iR=(nth p.heap.ag k).iR
  lv:∀ r,jl x.tree r=jl p.tree r
  iL:∀ r,0≤r→r≤4→(nth p.tree r).iL.ik - i≤(nth x.tree r).iL.ik∧(nth x.tree r).iL.ik≤(nth p.tree r).iL.ik
  sp:x.gE.ik=p.gE.ik+i
  wa:x.want=0
  nx:ou l x.next (-1)=ring l (k0+i)
  wh:∀ s,s ∈ who→∃ j,j<i∧s=ring l (k0+j)
  wl:who.length=i
  sum:kF x=kF p
theorem wB.res {p x:dW} {l who:List Int} {k0 i:Nat} (h:wB p x l k0 i who) (hp:iS p=true) {k:Int} (k0:0≤k) (k9:k≤9):(oR p k).ik - i≤(oR x k).ik∧(oR x k).ik≤(oR p k).ik:=by
  have e:kN x (nth x.heap.ag k).res=kN p (nth p.heap.ag k).res:=by
    rw [(h.wt k k0 k9).2]
    unfold kN
    rw [lB h.ok,lB hp,h.lv]
  unfold oR
  rw [e]
  obtain ⟨r0,r4⟩:=vr p (nth p.heap.ag k).res
  exact h.iL _ r0 r4
theorem wB.less {p x:dW} {now:Int} {l who:List Int} {k0 i:Nat} (h:wB p x l k0 i who) (hp:iS p=true) {y:Int} (hy:y ∈ threads p now) (hm:qi x y=true):qi p y=true:=by
  obtain ⟨y0,y9⟩:=sw hy
  have hr:=h.res hp y0 y9
  unfold qi at *
  rw [(h.wt y y0 y9).1] at hm
  simp only [Bool.and_eq_true,decide_eq_true_eq] at *
  exact ⟨hm.1,by omega⟩
theorem wB.list {p x:dW} {now:Int} {who:List Int} {k0 i:Nat} (h:wB p x (runnable p now) k0 i who) (hp:iS p=true) (hi:i<(runnable p now).length) (hc:∀ y,y ∈ runnable p now→((runnable p now).length:Int)≤(oR p y).ik):runnable x now=runnable p now:=by
  show (threads x now).filter (qi x)=(threads p now).filter (qi p)
  rw [H8 hp h.ok h.sk]
  refine List.filter_congr fun y hy=>?_
  rw [Bool.eq_iff_iff]
  refine ⟨h.less hp hy,fun q=>?_⟩
  have hm:y ∈ runnable p now:=List.mem_filter.2 ⟨hy,q⟩
  obtain ⟨y0,y9⟩:=sw hy
  have hr:=h.res hp y0 y9
  have:=hc y hm
  unfold qi at *
  rw [(h.wt y y0 y9).1]
  simp only [Bool.and_eq_true,decide_eq_true_eq] at *
  exact ⟨q.1,by omega⟩
theorem wB.step {p x:dW} {now:Int} {who:List Int} {k0 i:Nat} (h:wB p x (runnable p now) k0 i who) (hp:iS p=true) (hi:i<(runnable p now).length) (hc:∀ y,y ∈ runnable p now→((runnable p now).length:Int)≤(oR p y).ik∧(nth p.heap.ag y).iR+((runnable p now).length:Int)≤1000000)
    (hs:p.gE.ik+((runnable p now).length:Int)≤1000000) :
    (lC x now).2=ring (runnable p now) (k0+i)∧ring (runnable p now) (k0+i) ∉ who∧wB p (lC x now).1 (runnable p now) k0 (i+1) (who++[ring (runnable p now) (k0+i)]):=by
  have hl:=h.list hp hi fun y hy=>(hc y hy).1
  have hn:0<(runnable p now).length:=by omega
  have hm:=H9 hn (k0+i)
  obtain ⟨r0,r9⟩:=sw (List.mem_filter.1 hm).1
  have e:jY x now=ring (runnable p now) (k0+i):=by
    unfold jY
    rw [hl,h.wa]
    exact h.nx
  have hnot:ring (runnable p now) (k0+i) ∉ who:=fun q=>by
    obtain ⟨j,hj,ej⟩:=h.wh _ q
    exact HV (xu p now) hj hi ej
  have hran:=h.iR _ r0 r9 hnot
  have hcy:=hc _ hm
  have hnr:pO x now=false:=by
    unfold pO
    rw [e,h.sp,hran]
    simp only [Bool.or_eq_false_iff,decide_eq_false_iff_not]
    omega
  have ax:=jS h.ok
  have hlen:=ax.len
  have hpay:=Al h.ok (oW hnr)
  obtain ⟨b1,b2⟩:=Ii hpay
  have hrs:=G8 x now
  have hsz:=h.sz
  rw [GK h.ok hnr] at hrs ⊢
  dsimp only at *
  have hsp:=sK (mQ h.ok)
  have hset:∀ k,0≤k→nth (sB x now).heap.ag k=if jY x now=k then ri (nth x.heap.ag (jY x now)) else nth x.heap.ag k:=fun k hk=>uO (by omega) (by omega) hk
  refine ⟨e,hnot,z4 h.ok hnr,?_,by omega,(xc h.ok hnr).1.trans h.sk,?_,?_,?_,?_,?_,rfl,?_,?_,?_,(Ea h.ok hnr).trans h.sum⟩
  · exact kL h.w (show mO (nth x.heap.ag (jY x now)) from h.w _ (ax.at (by omega) (by omega)).2)
  · intro k q0 q9
    rw [hset k q0]
    split
    · rename_i ek
      rw [← ek]
      exact h.wt _ (by omega) (by omega)
    · exact h.wt k q0 q9
  · intro k q0 q9 hk
    rw [hset k q0,if_neg (fun ek=>hk (by rw [← ek,e];simp))]
    exact h.iR k q0 q9 fun q=>hk (by simp [q])
  · intro r
    exact (b1 r).trans (h.lv r)
  · intro r q0 q4
    have a:=b2 r q0 q4
    have b:=h.iL r q0 q4
    show (nth p.tree r).iL.ik - ((i+1:Nat):Int)≤(nth (jq x.tree (kN x (nth x.heap.ag (jY x now)).res) ⟨0,0,1⟩).1 r).iL.ik∧(nth (jq x.tree (kN x (nth x.heap.ag (jY x now)).res) ⟨0,0,1⟩).1 r).iL.ik≤_
    omega
  · show IntKind.i64.wrap (x.gE.ik+1)=_
    rw [iI (by omega) (by omega),h.sp]
    omega
  · show ou (runnable p now) (jY x now) (-1)=_
    rw [e]
    exact GO (xu p now) (fun y hy=>(sw (List.mem_filter.1 hy).1).1) hn (k0+i)
  · intro s hs
    rcases List.mem_append.1 hs with q | q
    · obtain ⟨j,hj,ej⟩:=h.wh s q
      exact ⟨j,by omega,ej⟩
    · rw [List.mem_singleton] at q
      exact ⟨i,by omega,q⟩
  · simp [h.wl]
end Go.Kx
