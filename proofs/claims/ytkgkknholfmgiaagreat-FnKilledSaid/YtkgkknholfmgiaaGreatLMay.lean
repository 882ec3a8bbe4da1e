/- Plain laws: who is killed, who runs, who wakes, as the laws ask. No program in sight. -/
import Derived.Test.YtkgkknholfmgiaaGreatLKeep
import Derived.Test.YtkgkknholfmgiaaGreatLDrawP
namespace Go.Kx
open Go
set_option linter.unusedVariables false
set_option linter.unusedSimpArgs false
set_option maxRecDepth 10000
theorem thr_rng {p:DPart} {now y:Int} (h:y ∈ threads p now):0≤y∧y≤9:=(threads_at h).2
theorem victim_two (p:DPart) (now:Int):decide (victim p now ≥ 0)=decide (((threads p now).length:Int) ≥ 2):=by
  cases h:decide (victim p now ≥ 0)
  · unfold victim at h
    cases ht:threads p now with
    | nil=>simp
    | cons a l=>cases l with
      | nil=>simp
      | cons b l =>
        rw [ht] at h
        have hm:=better_mem (p:=p) (m:=threads p now) (b::l) a (by rw [ht];simp) fun y hy=>by rw [ht];simp at hy ⊢;exact .inr hy
        have:=(thr_rng hm).1
        simp at h
        simp only [List.foldl_cons] at this
        omega
  · unfold victim at h
    cases ht:threads p now with
    | nil=>rw [ht] at h;simp at h
    | cons a l=>cases l with
      | nil=>rw [ht] at h;simp at h
      | cons b l=>simp only [List.length_cons];exact (decide_eq_true (by omega)).symm
theorem better_le {p:DPart}:∀ (l:List Int) (v:Int),(balAt p (l.foldl (better p) v)).cpu≤(balAt p v).cpu∧∀ y,y ∈ l→(balAt p (l.foldl (better p) v)).cpu≤(balAt p y).cpu
  | [],v=>⟨Int.le_refl _,fun y hy=>by simp at hy⟩
  | z::l,v=>by
    obtain ⟨a,b⟩:=better_le (p:=p) l (better p v z)
    have h1:(balAt p (better p v z)).cpu≤(balAt p v).cpu∧(balAt p (better p v z)).cpu≤(balAt p z).cpu:=by
      unfold better
      split
      · rename_i q
        simp only [decide_eq_true_eq] at q
        exact ⟨q,Int.le_refl _⟩
      · rename_i q
        simp only [decide_eq_true_eq] at q
        exact ⟨Int.le_refl _,by omega⟩
    rw [List.foldl_cons]
    refine ⟨by omega,fun y hy=>?_⟩
    rcases List.mem_cons.1 hy with rfl | hy
    · omega
    · exact b y hy
theorem victim_least {p:DPart} {now y:Int} (h:decide (victim p now ≥ 0)=true) (hy:y ∈ threads p now):decide ((balAt p y).cpu<(balAt p (victim p now)).cpu)=false:=by
  unfold victim at *
  cases ht:threads p now with
  | nil=>rw [ht] at h;simp at h
  | cons a l=>cases l with
    | nil=>rw [ht] at h;simp at h
    | cons b l =>
      rw [ht] at hy
      obtain ⟨q1,q2⟩:=better_le (p:=p) (b::l) a
      simp only
      refine decide_eq_false ?_
      rcases List.mem_cons.1 hy with rfl | hy
      · omega
      · have:=q2 y hy
        omega
theorem thr_live {p:DPart} {now y:Int} (h:y ∈ threads p now):(nth p.heap.arena y).kind=4∧expired (nth p.heap.arena y) now=false:=by
  obtain ⟨ok,y0,y9⟩:=threads_at h
  have ar:=partOk_ar ok
  unfold threads at h
  rw [if_pos ok] at h
  obtain ⟨i,b,h1,h2,h3⟩:=collI_mem.1 h
  simp only [Nat.zero_add,Bool.and_eq_true,beq_iff_eq] at h2 h3
  obtain ⟨hb,hk⟩:=h2
  subst h3
  rw [hb] at h1
  refine ⟨hk,reach_live ar (((reach_is ar now).2 i).1 h1) fun q=>?_⟩
  rw [q,ar.kind0] at hk
  cases hk
theorem victim_gone {p:DPart} {now:Int} (hn:1≤now∧now≤1000000) (h:decide (victim p now ≥ 0)=true) {x:DPart} (hx:x.heap.arena=killed p now):(threads x now).contains (victim p now)=false:=by
  cases q:(threads x now).contains (victim p now)
  · rfl
  · have hm:victim p now ∈ threads x now:=by simpa using q
    obtain ⟨hk,he⟩:=thr_live hm
    have hv:=victim_mem h
    obtain ⟨ok,v0,v9⟩:=threads_at hv
    have hl:=(partOk_ar ok).len
    rw [hx] at he hk
    unfold killed at he hk
    rw [h] at he hk
    simp only [if_true] at he hk
    rw [nth_set v0 (by omega) v0,if_pos rfl] at he
    unfold expired at he
    have hkk:((tilled (nth p.heap.arena (victim p now)) (IntKind.i64.wrap (now - 1))).kind==0)=false:=by
      rw [nth_set v0 (by omega) v0,if_pos rfl] at hk
      rw [hk];rfl
    rw [hkk] at he
    have hw:(tilled (nth p.heap.arena (victim p now)) (IntKind.i64.wrap (now - 1))).til=now - 1:=wrap_ok (by omega) (by omega)
    rw [cond_false,hw] at he
    simp at he
    omega
theorem killed_back {p:DPart} {now:Int} (h:decide (victim p now ≥ 0)=true):(killed p now).set (victim p now).toNat (tilled (nth (killed p now) (victim p now)) (nth p.heap.arena (victim p now)).til)=p.heap.arena:=by
  have hv:=victim_mem h
  obtain ⟨ok,v0,v9⟩:=threads_at hv
  have hl:=(partOk_ar ok).len
  unfold killed
  rw [h]
  simp only [if_true]
  rw [nth_set v0 (by omega) v0,if_pos rfl,List.set_set]
  exact set_get (nth_get v0 (by omega))
end Go.Kx
/- The plain law of 'FnKilled'. No program in sight. -/
namespace Go.Kx
open Go
set_option linter.unusedVariables false
set_option linter.unusedSimpArgs false
set_option maxRecDepth 10000
theorem l_has {N:Nat} (hN:BIG≤N) {l:List Int} {x:Int} (hb:l.length<BIG):F_l_has N l x=some (l.contains x):=s_l4Has hN hb
theorem L_FnKilled {x:List U8} (hx:Fit.fit x):∃ N,F_l_FnKilled N x=some true:=by
  obtain ⟨N,hN⟩:∃ N,BIG≤N:=⟨BIG,Nat.le_refl _⟩
  suffices h:WD (F_l_FnKilled N x) (fun r=>r=true) by
    obtain ⟨_,e,rfl⟩:=h
    exact ⟨N,e⟩
  unfold F_l_FnKilled F_l_big
  refine WD.step rfl (WD.ite (fun _=>WD.ret rfl) fun c=>?_)
  have hl:x.length≤1048576:=by have:=of_decide_eq_false c;omega
  refine WD.bind (wd_DrawKill hN hl) fun d ⟨⟨d1,d2⟩,n0,n1⟩=>?_
  obtain ⟨p,now⟩:=d
  dsimp only at *
  have hB:(16777216:Nat)=BIG:=rfl
  have hb:sz_DPart p<BIG:=by omega
  have s0:=kill_sz p now
  refine WD.step (i_PartKill hN hb now) ?_
  refine WD.bind (P:=fun j=>j=!(partOk p&&(inR now 1 1000000&&!decide (p.press<3)))) ?_ fun j hj=>WD.ite (fun c=>?_) fun c=>?_
  · refine WD.step (s_PartOk hN hb d2) ?_
    have e:inR now 1 1000000=!decide (now<1):=by
      unfold inR
      rw [decide_eq_true (show now≤1000000 by omega),Bool.and_true, ← decide_not]
      exact decide_eq_decide.2 (by omega)
    rw [e]
    cases partOk p
    · exact WD.ret rfl
    cases decide (now<1)
    · exact WD.ret (by simp)
    · exact WD.ret rfl
  · rw [hj] at c
    have e:partKill p now=p:=by unfold partKill;cases q:(partOk p&&(inR now 1 1000000&&!decide (p.press<3))) <;> simp [q] at c ⊢
    rw [e]
    exact WD.step (s_SamePart hN hb) (WD.ret (decide_eq_true rfl))
  · rw [hj] at c
    have c:partOk p=true∧inR now 1 1000000=true∧decide (p.press<3)=false:=by simpa using c
    obtain ⟨ok,hn,_⟩:=c
    rw [inR_iff] at hn
    have ar:=partOk_ar ok
    have e:partKill p now=DPart.mk p.label p.own p.tree (DHeap.mk (killed p now) p.heap.gc) p.taps p.next p.want p.spent 0 p.lost:=by
      unfold partKill
      rw [if_pos]
      simp_all [inR_iff]
    have hq:sz_DPart (partKill p now)<BIG:=by omega
    have hw:wP (partKill p now):=by
      intro o ho
      rw [e] at ho
      dsimp only at ho
      unfold killed at ho
      split at ho
      · rename_i q
        obtain ⟨_,v0,v9⟩:=threads_at (victim_mem q)
        exact wA_set (o:=tilled (nth p.heap.arena (victim p now)) (IntKind.i64.wrap (now - 1))) d2 (show wOk (nth p.heap.arena (victim p now)) from d2 _ (ar.at v0 v9).2) o ho
      · exact d2 o ho
    have ht:(threads p now).length<BIG:=threads_len p now
    have ht2:(threads (partKill p now) now).length<BIG:=threads_len _ now
    refine WD.step (s_Threads hN hb d2 now) (WD.step (i_Victim hN hb now) ?_)
    rw [victim_two,beq_self_eq_true]
    refine WD.step (a:=false) (by rw [e];rfl) ?_
    have hkl:(killed p now).length=10:=by
      unfold killed
      split
      · rw [List.length_set];exact ar.len
      · exact ar.len
    have hl1:((partKill p now).heap.arena.length:Int)=10:=by rw [e];show ((killed p now).length:Int)=10;rw [hkl];rfl
    rw [hl1]
    simp only [cond_false,bne_self_eq_false]
    refine WD.bind (P:=fun o=>o=.inl p.heap.arena) ?_ fun o ho=>?_
    · rw [← victim_two]
      refine WD.ite (fun v=>?_) fun v=>?_
      · have hv:=victim_mem v
        obtain ⟨_,v0,v9⟩:=threads_at hv
        refine WD.bind (P:=fun j=>j=false) ?_ fun j hj=>?_
        · refine WD.step (l_has hN ht) ?_
          rw [show (threads p now).contains (victim p now)=true by simpa using hv]
          refine WD.step (s_Threads hN hq hw now) (WD.step (l_has hN ht2) (WD.ret ?_))
          exact victim_gone hn v (by rw [e])
        rw [hj]
        refine WD.bind (WD.loop (fun s=>0≤s∧s≤((threads p now).length:Int)) (fun r=>∃ s,r=.inl s) (fun s=>(((threads p now).length:Int) - s).toNat) ⟨Int.le_refl _,by omega⟩ (by have:=threads_len p now;omega) ?_) fun r ⟨s,hr⟩=>?_
        · intro s ⟨s1,s2⟩
          refine WD.ite (fun c=>?_) fun _=>WD.inr ⟨_,rfl⟩
          have c:=of_decide_eq_true c
          refine WD.bind (wd_idx s1 c) fun y hy=>?_
          obtain ⟨_,y0,y9⟩:=threads_at hy
          obtain ⟨a0,a4⟩:=resOf_rng p (nth p.heap.arena y).res
          obtain ⟨b0,b4⟩:=resOf_rng p (nth p.heap.arena (victim p now)).res
          have vl:=victim_least v hy
          unfold balAt at vl
          refine WD.step (ar.at y0 y9).1 (WD.step (ar.at v0 v9).1 (WD.step (s_ResOf hN p _) (WD.step (treeIdx ok a0 a4) (WD.step (s_ResOf hN p _) (WD.step (treeIdx ok b0 b4) ?_)))))
          rw [vl,wrap_ok (n:=s+1) (by omega) (by omega)]
          exact WD.inl ⟨by omega,by omega⟩ (by omega)
        · rw [hr]
          refine WD.step (ar.at v0 v9).1 ?_
          rw [e]
          refine WD.step (idx_ok (l:=killed p now) v0 (by omega)) (WD.step rfl (WD.ret ?_))
          exact congrArg Sum.inl (killed_back v)
      · refine WD.ret ?_
        rw [e]
        unfold killed
        rw [v]
        rfl
    · rw [ho,e]
      exact WD.step (s_SamePart (a:=p) (b:=p) hN hb) (WD.ret (decide_eq_true rfl))
end Go.Kx
