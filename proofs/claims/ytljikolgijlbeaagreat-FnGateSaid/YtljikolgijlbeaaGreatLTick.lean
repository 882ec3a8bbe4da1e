/- The plain law of 'FnExactTick'. No program in sight. -/
import Derived.Test.YtljikolgijlbeaaGreatLTaps
import Derived.Test.YtljikolgijlbeaaGreatLCollect
namespace Go.Kx
open Go
set_option linter.unusedVariables false
set_option linter.unusedSimpArgs false
set_option maxRecDepth 10000
theorem wOk_nth {l:List DObj} (h:wA l) (i:Int):wOk (nth l i):=by
  unfold nth
  cases e:l[i.toNat]? with
  | none=>show (-9223372036854775808:Int)≤0;decide
  | some o=>exact h o (List.mem_of_getElem? e)
theorem kill_w {p:DPart} (h:wP p) (now:Int):wP (partKill p now):=by
  unfold partKill
  split
  · show wA (killed p now)
    unfold killed
    split
    · exact wA_set h (wOk_nth h _)
    · exact h
  · exact h
theorem wake_w {p:DPart} (h:wP p) (me now:Int):wP (partWake p me now):=by
  unfold partWake
  split
  · intro o ho
    obtain ⟨x,hx,rfl⟩:=List.mem_map.1 (show o ∈ p.heap.arena.map _ from ho)
    split
    · show (-9223372036854775808:Int)≤0;decide
    · exact h x hx
  · exact h
theorem run_w {p:DPart} (h:wP p) (now:Int):wP (partRun p now).1:=by
  unfold partRun
  split
  · split
    · exact h
    · exact wA_set h (wOk_nth h (nextOf p now))
  · exact h
def tickMid (p:DPart) (i now:Int):DPart:=(partCollect (partWake (partKill p now) i now) now 3).1
def tickPart (n:Nat) (p:DPart) (i now:Int):DPart:=bif Int.tmod now (n:Int)==i then (partRun (tickMid p i now) now).1 else tickMid p i now
def tickStep (n:Nat) (k:Nat) (w:DWorld):DWorld:=DWorld.mk (partTaps w (k:Int)).now ((partTaps w (k:Int)).parts.set k (tickPart n (nth (partTaps w (k:Int)).parts (k:Int)) (k:Int) (partTaps w (k:Int)).now))
def tick (w:DWorld):DWorld:=if worldOk w&&!(w.now==1000000) then foldI (fun k t (_:DPart)=>tickStep w.parts.length k t) 0 (DWorld.mk (IntKind.i64.wrap (w.now+1)) w.parts) w.parts else w
theorem tickMid_in {p:DPart} {b:Nat} (hb:sz_DPart p≤b) (h2:b≤2000000) (hw:wP p) (i now:Int):sz_DPart (tickMid p i now)≤b+1200∧wP (tickMid p i now):=by
  have h1:=kill_sz p now
  have h3:=wake_sz (partKill p now) i now
  obtain ⟨a,c⟩:=collect_in (p:=partWake (partKill p now) i now) (by omega) (wake_w (kill_w hw now) i now) now 3
  exact ⟨by show sz_DPart (partCollect (partWake (partKill p now) i now) now 3).1≤_;omega,c⟩
theorem tickPart_in {n:Nat} {p:DPart} {b:Nat} (hb:sz_DPart p≤b) (h2:b≤2000000) (hw:wP p) (i now:Int):sz_DPart (tickPart n p i now)≤b+1300∧wP (tickPart n p i now):=by
  obtain ⟨a,c⟩:=tickMid_in hb h2 hw i now
  unfold tickPart
  cases Int.tmod now (n:Int)==i
  · exact ⟨by simp only [cond_false];omega,c⟩
  · have:=run_sz (tickMid p i now) now
    exact ⟨by simp only [cond_true];omega,run_w c now⟩
theorem put_keep:∀ {l:List DPart} {ts:List (List DRes)},ts.map List.length=(partTrees l).map List.length→(putTrees l ts).length=l.length∧∀ q,q ∈ putTrees l ts→∃ p,p ∈ l∧sz_DPart q=sz_DPart p∧q.heap=p.heap
  | [],[],_=>⟨rfl,fun _ h=>absurd h (by simp [putTrees])⟩
  | [],_::_,h=>by simp [partTrees] at h
  | _::_,[],h=>by simp [partTrees] at h
  | p::l,t::ts,h=>by
    simp only [partTrees,List.map_cons,List.cons.injEq] at h
    obtain ⟨i1,i2⟩:=put_keep (l:=l) (ts:=ts) h.2
    refine ⟨by show (putTree p t::putTrees l ts).length=_;simp [i1],fun q hq=>?_⟩
    rcases List.mem_cons.1 (show q ∈ putTree p t::putTrees l ts from hq) with rfl | hq
    · exact ⟨p,List.mem_cons_self,by unfold sz_DPart putTree;simp only [h.1],rfl⟩
    · obtain ⟨y,hy,e⟩:=i2 q hq
      exact ⟨y,List.mem_cons_of_mem _ hy,e⟩
theorem taps_keep (w:DWorld) (p:Int):(partTaps w p).now=w.now∧(partTaps w p).parts.length=w.parts.length∧∀ q,q ∈ (partTaps w p).parts→∃ p,p ∈ w.parts∧sz_DPart q=sz_DPart p∧q.heap=p.heap:=by
  unfold partTaps
  split
  · refine ⟨rfl,put_keep ?_⟩
    have h:(tapped (treesOf w.parts) p (nth w.parts p).taps).map (fun t=>t.list.length)=(treesOf w.parts).map (fun t=>t.list.length):=tapped_lens p (nth w.parts p).taps (treesOf w.parts)
    unfold treeLists
    rw [List.map_map]
    refine Eq.trans (show _=(tapped (treesOf w.parts) p (nth w.parts p).taps).map (fun t=>t.list.length) from rfl) (h.trans ?_)
    unfold treesOf
    rw [List.map_map]
    rfl
  · exact ⟨rfl,rfl,fun q hq=>⟨q,hq,rfl,rfl⟩⟩
structure Tin (n:Nat) (k:Nat) (t:DWorld):Prop where
  len:t.parts.length=n
  small:n≤3
  sz:∀ p,p ∈ t.parts→sz_DPart p≤1048576+1300 * k∧wP p
theorem Tin.big {n k:Nat} {t:DWorld} (h:Tin n k t) (hk:k≤3):szL sz_DPart t.parts<BIG:=by
  have hB:(16777216:Nat)=BIG:=rfl
  have h1:sumL sz_DPart t.parts≤(1048576+1300 * 3) * t.parts.length:=sumL_le fun y hy=>Nat.le_trans (h.sz y hy).1 (by omega)
  have h2:=h.len
  have h3:=h.small
  have h4:(1048576+1300 * 3) * t.parts.length≤(1048576+1300 * 3) * 3:=Nat.mul_le_mul_left _ (by omega)
  unfold szL
  omega
theorem Tin.w {n k:Nat} {t:DWorld} (h:Tin n k t):wW t.parts:=fun p hp=>(h.sz p hp).2
theorem Tin.taps {n k:Nat} {t:DWorld} (h:Tin n k t) (p:Int):Tin n k (partTaps t p):=by
  obtain ⟨_,h2,h3⟩:=taps_keep t p
  refine ⟨h2.trans h.len,h.small,fun q hq=>?_⟩
  obtain ⟨y,hy,e1,e2⟩:=h3 q hq
  obtain ⟨a,b⟩:=h.sz y hy
  exact ⟨by omega,by unfold wP at *;rw [e2];exact b⟩
theorem Tin.step {n k:Nat} {t:DWorld} (h:Tin n k t) (hk:k<n):Tin n (k+1) (tickStep n k t):=by
  have hT:=h.taps (k:Int)
  have hs:=hT.small
  refine ⟨by show ((partTaps t (k:Int)).parts.set k _).length=n;rw [List.length_set];exact hT.len,hT.small,fun q hq=>?_⟩
  rcases List.mem_or_eq_of_mem_set (show q ∈ (partTaps t (k:Int)).parts.set k _ from hq) with h1 | h1
  · obtain ⟨a,b⟩:=hT.sz q h1
    exact ⟨by omega,b⟩
  · subst h1
    have hl:=hT.len
    obtain ⟨a,b⟩:=hT.sz _ (nth_mem (l:=(partTaps t (k:Int)).parts) (i:=(k:Int)) (by omega) (by omega))
    obtain ⟨c,d⟩:=tickPart_in (n:=n) a (by omega) b (k:Int) (partTaps t (k:Int)).now
    exact ⟨by omega,d⟩
theorem tickLoop {N:Nat} (hN:BIG≤N) {w:DWorld} {body:Int×Int×List DPart→Option ((Int×Int×List DPart)⊕(Int×Int×List DPart))} (h0:Tin w.parts.length 0 (DWorld.mk (IntKind.i64.wrap (w.now+1)) w.parts))
    (hs:∀ (k:Nat) (t:DWorld),k<w.parts.length→k<BIG→Tin w.parts.length k t→body ((k:Int),t.now,t.parts)=some (.inl (((k+1:Nat):Int),(tickStep w.parts.length k t).now,(tickStep w.parts.length k t).parts)))
    (he:∀ t:DWorld,Tin w.parts.length w.parts.length t→body ((w.parts.length:Int),t.now,t.parts)=some (.inr ((w.parts.length:Int),t.now,t.parts))) :
    iter body N (0,IntKind.i64.wrap (w.now+1),w.parts)=some ((w.parts.length:Int),(foldI (fun k t (_:DPart)=>tickStep w.parts.length k t) 0 (DWorld.mk (IntKind.i64.wrap (w.now+1)) w.parts) w.parts).now,(foldI (fun k t (_:DPart)=>tickStep w.parts.length k t) 0 (DWorld.mk (IntKind.i64.wrap (w.now+1)) w.parts) w.parts).parts):=by
  have hB:(16777216:Nat)=BIG:=rfl
  have h3:=h0.small
  exact iter_fold w.parts (fun (k:Nat) (t:DWorld)=>((k:Int),t.now,t.parts)) (fun k t _=>tickStep w.parts.length k t) (fun t=>((w.parts.length:Int),t.now,t.parts)) (Tin w.parts.length)
    (fun k t y _ hk hI=>⟨hs k t hk (by omega) hI,hI.step hk⟩) he (Nat.lt_of_lt_of_le (show w.parts.length<BIG by omega) hN) h0
theorem dz_n {n:Int} (h:n ≠ 0):dz n=some ():=by unfold dz;rw [if_neg h]
theorem world_n {w:DWorld} (h:worldOk w=true):1≤w.parts.length∧w.parts.length≤3∧0≤w.now∧w.now≤1000000:=by
  unfold worldOk at h
  simp only [Bool.and_eq_true,inR_iff] at h
  omega
theorem tin0 {w:DWorld} (hb:sz_DWorld w≤1048576) (hW:wW w.parts) (hw:worldOk w=true):Tin w.parts.length 0 (DWorld.mk (IntKind.i64.wrap (w.now+1)) w.parts) :=
  ⟨rfl,(world_n hw).2.1,fun p hp=>⟨by
    have:sz_DPart p≤sumL sz_DPart w.parts:=sumL_mem hp
    unfold sz_DWorld szL at hb
    omega,hW p hp⟩⟩
theorem i_Tick {N:Nat} (hN:BIG≤N) {w:DWorld} (hM:sz_DWorld w≤1048576) (hW:wW w.parts):F_i_Tick N w=some (tick w):=by
  have hB:(16777216:Nat)=BIG:=rfl
  have hb:szL sz_DPart w.parts<BIG:=by unfold sz_DWorld at hM;omega
  unfold F_i_Tick tick
  simp only [i_copyWorld hN hb,i_WorldOk hN hb,Option.bind_some,bOr]
  cases hw:worldOk w
  · rfl
  cases hm:w.now==1000000
  case true=>rfl
  obtain ⟨n1,n3,_,_⟩:=world_n hw
  simp only [Bool.not_true,Bool.not_false,Bool.or_self,cond_false,Bool.and_self,if_true]
  rw [tickLoop hN (tin0 hM hW hw)]
  · rfl
  · intro k t hk hkB hI
    have hT:=hI.taps (k:Int)
    have hl:=hT.len
    obtain ⟨a,b⟩:=hT.sz _ (nth_mem (l:=(partTaps t (k:Int)).parts) (i:=(k:Int)) (by omega) (by omega))
    obtain ⟨c,d⟩:=tickMid_in a (by omega) b (k:Int) (partTaps t (k:Int)).now
    have q1:=kill_sz (nth (partTaps t (k:Int)).parts (k:Int)) (partTaps t (k:Int)).now
    have q2:=wake_sz (partKill (nth (partTaps t (k:Int)).parts (k:Int)) (partTaps t (k:Int)).now) (k:Int) (partTaps t (k:Int)).now
    simp only [lt_dec hk,cond_true,show DWorld.mk t.now t.parts=t from rfl,i_PartTaps hN (hI.big (by omega)),Option.bind_some,idx_ok (l:=(partTaps t (k:Int)).parts) (i:=(k:Int)) (by omega) (by omega),
      i_PartKill hN (p:=nth (partTaps t (k:Int)).parts (k:Int)) (by omega),i_PartWake hN (p:=partKill (nth (partTaps t (k:Int)).parts (k:Int)) (partTaps t (k:Int)).now) (by omega)]
    have e1:=i_PartCollect hN (p:=partWake (partKill (nth (partTaps t (k:Int)).parts (k:Int)) (partTaps t (k:Int)).now) (k:Int) (partTaps t (k:Int)).now) (by omega) (wake_w (kill_w b _) _ _) (partTaps t (k:Int)).now 3
    have e2:=i_PartRun hN (p:=tickMid (nth (partTaps t (k:Int)).parts (k:Int)) (k:Int) (partTaps t (k:Int)).now) (by omega) (partTaps t (k:Int)).now
    unfold tickMid at e2
    have e3:((k:Int)==Int.tmod (partTaps t (k:Int)).now (w.parts.length:Int))=(Int.tmod (partTaps t (k:Int)).now (w.parts.length:Int)==(k:Int)):=Bool.beq_comm ..
    refine Eq.trans (congrArg (fun x=>Option.bind x _) e1) ?_
    simp only [Option.bind_some,dz_n (show (w.parts.length:Int) ≠ 0 by omega),e2,e3,wrap1 hkB]
    unfold tickStep tickPart tickMid
    generalize partRun (partCollect (partWake (partKill (nth (partTaps t (k:Int)).parts (k:Int)) (partTaps t (k:Int)).now) (k:Int) (partTaps t (k:Int)).now) (partTaps t (k:Int)).now 3).1 (partTaps t (k:Int)).now=R
    generalize partCollect (partWake (partKill (nth (partTaps t (k:Int)).parts (k:Int)) (partTaps t (k:Int)).now) (k:Int) (partTaps t (k:Int)).now) (partTaps t (k:Int)).now 3=C
    have hid:=idx_ok (l:=(partTaps t (k:Int)).parts) (i:=(k:Int)) (by omega) (by omega)
    generalize partTaps t (k:Int)=X at hid ⊢
    cases Int.tmod X.now (w.parts.length:Int)==(k:Int)
    · simp only [cond_false,Option.bind_some,hid,Int.toNat_natCast]
    · simp only [cond_true,Option.bind_some,hid,Int.toNat_natCast]
  · intro t _
    simp only [ge_dec,cond_false]
end Go.Kx
