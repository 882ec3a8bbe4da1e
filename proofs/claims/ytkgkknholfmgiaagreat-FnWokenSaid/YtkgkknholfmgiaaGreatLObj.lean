/- Plain laws: things, arenas, heaps, taps, parts: what is right. No program in sight. -/
import Derived.Test.YtkgkknholfmgiaaGreatLTree
import Derived.Test.YtkgkknholfmgiaaGreatLBoot
namespace Go.Kx
open Go
set_option linter.unusedVariables false
set_option linter.unusedSimpArgs false
set_option maxRecDepth 10000
theorem cond_some {α:Type} (p:Bool) (a b:α):(bif p then some a else some b)=some (bif p then a else b):=by cases p <;> rfl
theorem elim_ite {ρ τ β:Type} (c:Bool) (a:ρ) (r:τ) (f:ρ→Option β) (g:τ→Option β):Sum.elim f g (if c then .inl a else .inr r)=if c then f a else g r:=by cases c <;> rfl
theorem i_isPart (N:Nat) (a:Int):F_i_isPart N a=some (inR a 0 2):=by unfold F_i_isPart;rw [i_in];rfl
theorem i_isSlot (N:Nat) (a:Int):F_i_isSlot N a=some (inR a 0 9):=by unfold F_i_isSlot;rw [i_in];rfl
theorem i_isTime (N:Nat) (a:Int):F_i_isTime N a=some (inR a 0 1000000):=by unfold F_i_isTime;rw [i_in];rfl
theorem i_isHandle (N:Nat) (a:Int):F_i_isHandle N a=some (inR a 0 29999):=by unfold F_i_isHandle;rw [i_in];rfl
theorem s_l8Handle (N:Nat) (a:Int):F_s_l8Handle N a=some (inR a 0 29999):=by unfold F_s_l8Handle;rw [s_in];rfl
theorem s_l8Slot (N:Nat) (a:Int):F_s_l8Slot N a=some (inR a 0 9):=by unfold F_s_l8Slot;rw [s_in];rfl
def msgOk (m:DMsg):Bool:=!(bif (m.src != (-1)) then (!inR m.src 0 29999 || !inR m.n 0 999) else !inR m.n 0 999)
def listsOk (o:DObj):Bool:=o.links.all (fun y=>inR y (-1) 9)&&(o.data.all (fun y=>inR y 0 999)&&(o.queue.all msgOk&&(((o.links.length:Int)==2)&&(((o.data.length:Int)==(bif o.kind==2 then o.pages else 0))&&decide ((o.queue.length:Int)≤(bif o.kind==3 then 2 else 0))))))
theorem i_listsOk {N:Nat} (hN:BIG≤N) {o:DObj} (ho:sz_DObj o<BIG):F_i_listsOk N o=some (listsOk o):=by
  obtain ⟨h1,h2,h3⟩:=szObj ho
  unfold F_i_listsOk listsOk
  rw [iter_all o.links (fun _ y=>inR y (-1) 9) (.inl (o.links.length:Int)) (.inr false) (Nat.lt_of_lt_of_le h1 hN),allI_const,Option.bind_some]
  · cases o.links.all fun y=>inR y (-1) 9
    · rfl
    simp only [if_true,Sum.elim_inl,Bool.true_and]
    rw [iter_all o.data (fun _ y=>inR y 0 999) (.inl (o.data.length:Int)) (.inr false) (Nat.lt_of_lt_of_le h2 hN),allI_const,Option.bind_some]
    · cases o.data.all fun y=>inR y 0 999
      · rfl
      simp only [if_true,Sum.elim_inl,Bool.true_and]
      rw [iter_all o.queue (fun _ y=>msgOk y) (.inl (o.queue.length:Int)) (.inr false) (Nat.lt_of_lt_of_le h3 hN),allI_const,Option.bind_some]
      · cases o.queue.all msgOk
        · rfl
        simp only [if_true,Sum.elim_inl,Bool.true_and,cond_some,Option.bind_some]
        congr 1
        cases ((o.links.length:Int)==2) <;> cases ((o.data.length:Int)==(bif o.kind==2 then o.pages else 0)) <;> simp
      · intro k y hy hk
        simp only [lt_dec hk,cond_true,idx_nat,hy,Option.bind_some,i_in,i_isHandle,bOr,cond_some,wrap1 (Nat.lt_trans hk h3)]
        unfold msgOk
        cases (y.src != (-1)) <;> cases inR y.src 0 29999 <;> cases inR y.n 0 999 <;> rfl
      · simp only [ge_dec,cond_false]
    · intro k y hy hk
      simp only [lt_dec hk,cond_true,idx_nat,hy,Option.bind_some,i_in,wrap1 (Nat.lt_trans hk h2)]
      cases inR y 0 999 <;> rfl
    · simp only [ge_dec,cond_false]
  · intro k y hy hk
    simp only [lt_dec hk,cond_true,idx_nat,hy,Option.bind_some,i_in,wrap1 (Nat.lt_trans hk h1)]
    cases inR y (-1) 9 <;> rfl
  · simp only [ge_dec,cond_false]
def blank (g:Int):DObj:=DObj.mk g 0 0 0 0 0 0 0 0 false [] [] []
def objOk (o:DObj):Bool:=inR o.gen 0 999&&(inR o.kind 0 4&&(bif o.kind==0 then decide (o=blank o.gen) else
  inR o.box (-1) 9&&(inR o.res 0 4&&(inR o.til 0 1000000&&(inR o.pages 0 8&&(listsOk o&&(bif o.kind != 4 then (o.wait==0&&(o.got==0&&o.ran==0)) else
    (o.wait==0 || inR (IntKind.i64.wrap (o.wait - 1)) 0 29999)&&(inR o.got (-1) 999&&inR o.ran 0 1000000))))))))
theorem i_ObjOk {N:Nat} (hN:BIG≤N) {o:DObj} (ho:sz_DObj o<BIG):F_i_ObjOk N o=some (objOk o):=by
  unfold F_i_ObjOk objOk
  simp only [i_in,i_isPlace,i_isTime,i_isHandle,i_listsOk hN ho,i_sameObj hN ho,Option.bind_some,bOr,bAnd,cond_some]
  rw [show DObj.mk o.gen 0 0 0 0 0 0 0 0 false [] [] []=blank o.gen from rfl]
  congr 1
  simp only [Bool.cond_true_left,Bool.cond_false_left,Bool.cond_true_right,Bool.cond_false_right,Bool.not_or,Bool.not_not,Bool.and_assoc]
  cases o.wait==0 <;> rfl
def wOk (o:DObj):Prop:=-9223372036854775808≤o.wait
theorem wait_neg {n:Int} (h:-9223372036854775808≤n) (h0:n<0):inR (IntKind.i64.wrap (n - 1)) 0 29999=false:=by
  rcases Decidable.em (n=-9223372036854775808) with e | e
  · subst e;decide
  · rw [wrap_ok (by omega) (by omega)]
    simp [inR];omega
def waitOk (o:DObj):Bool:=bif o.kind != 4 then (o.wait==0&&(o.got==0&&o.ran==0)) else
    (o.wait==0 || inR (IntKind.i64.wrap (o.wait - 1)) 0 29999)&&(inR o.got (-1) 999&&inR o.ran 0 1000000)
theorem c_wait {o : DObj} (hw : wOk o) (hr : inR o.ran 0 1000000 = true) : (bif o.kind != 4 then bif o.wait != 0 then true else bif o.got != 0 then true else bif o.ran != 0 then true else bif o.kind == 4 then
      bif decide (o.wait < 0) then true else bif decide (o.wait > 0) then !inR (IntKind.i64.wrap (o.wait - 1)) 0 29999 || !inR o.got (-1) 999 else !inR o.got (-1) 999 else false
    else bif o.kind == 4 then bif decide (o.wait < 0) then true else bif decide (o.wait > 0) then !inR (IntKind.i64.wrap (o.wait - 1)) 0 29999 || !inR o.got (-1) 999 else !inR o.got (-1) 999 else false) = !waitOk o := by
  unfold waitOk
  simp only [bne, hr]
  cases o.kind == 4
  · simp only [Bool.not_false, cond_true, cond_false]
    cases o.wait == 0 <;> cases o.got == 0 <;> cases o.ran == 0 <;> rfl
  · simp only [Bool.not_true, cond_true, cond_false]
    rcases Int.lt_trichotomy o.wait 0 with h | h | h
    · have e1 : decide (o.wait < 0) = true := by simpa using h
      have e2 : (o.wait == 0) = false := by simp; omega
      rw [e1, e2, wait_neg hw h]; rfl
    · simp only [h]
      cases inR o.got (-1) 999 <;> rfl
    · have e1 : decide (o.wait < 0) = false := by simp; omega
      have e2 : (o.wait == 0) = false := by simp; omega
      have e3 : decide (o.wait > 0) = true := by simpa using h
      rw [e1, e2, e3]
      cases inR (IntKind.i64.wrap (o.wait - 1)) 0 29999 <;> cases inR o.got (-1) 999 <;> rfl
theorem c_data (o:DObj):(bif (o.data.length:Int) != 0 then bif o.kind != 2 then true else bif (o.data.length:Int) != o.pages then true else bif o.kind==2 then (o.data.length:Int) != o.pages else false
    else bif o.kind==2 then (o.data.length:Int) != o.pages else false)=!((o.data.length:Int)==(bif o.kind==2 then o.pages else 0)):=by
  simp only [bne]
  cases o.kind==2 <;> cases h:((o.data.length:Int)==0) <;> cases h2:((o.data.length:Int)==o.pages) <;> simp [h,h2]
theorem c_queue (o:DObj):(bif decide ((o.queue.length:Int) > 2) then true else bif decide ((o.queue.length:Int) > 0) then o.kind != 3 else false)=!decide ((o.queue.length:Int)≤(bif o.kind==3 then 2 else 0)):=by
  simp only [bne]
  cases o.kind==3
  · simp only [cond_false]
    rcases Nat.lt_trichotomy o.queue.length 0 with h | h | h
    · omega
    · simp [h]
    · rw [decide_eq_true (show (o.queue.length:Int) > 0 by omega),decide_eq_false (show ¬ ((o.queue.length:Int)≤0) by omega)]
      cases decide ((o.queue.length:Int) > 2) <;> rfl
  · simp only [cond_true]
    rcases Nat.lt_or_ge 2 o.queue.length with h | h
    · rw [decide_eq_true (show (o.queue.length:Int) > 2 by omega),decide_eq_false (show ¬ ((o.queue.length:Int)≤2) by omega)];rfl
    · rw [decide_eq_false (show ¬ ((o.queue.length:Int) > 2) by omega),decide_eq_true (show (o.queue.length:Int)≤2 by omega)]
      cases decide ((o.queue.length:Int) > 0) <;> rfl
theorem s_ObjOk {N:Nat} (hN:BIG≤N) {o:DObj} (ho:sz_DObj o<BIG) (hw:wOk o):F_s_ObjOk N o=some (objOk o):=by
  obtain ⟨h1,h2,h3⟩:=szObj ho
  unfold F_s_ObjOk objOk
  rw [s_in,Option.bind_some]
  cases hg:inR o.gen 0 999
  · rfl
  simp only [Bool.not_true,cond_false,Bool.true_and]
  cases hk0:o.kind==0
  · simp only [cond_false,s_in,s_l6Res,Option.bind_some,bOr]
    have hk0':o.kind ≠ 0:=by simpa using hk0
    cases hA:(!inR o.kind 1 4 || (!inR o.box (-1) 9 || (!inR o.res 0 4 || (!inR o.til 0 1000000 || (!inR o.pages 0 8 || ((o.links.length:Int) != 2 || !inR o.ran 0 1000000))))))
    · simp only [Bool.or_eq_false_iff,Bool.not_eq_false',bne_eq_false_iff_eq] at hA
      obtain ⟨a1,a2,a3,a4,a5,a6,a7⟩:=hA
      have a1':inR o.kind 0 4=true:=by rw [inR_iff] at a1 ⊢;omega
      have hl2:o.links.length=2:=by omega
      simp only [cond_false,a1',a2,a3,a4,a5,Bool.true_and]
      rw [iter_all o.links (fun _ y=>inR y (-1) 9) (.inl (2:Int)) (.inr false) (Nat.lt_of_lt_of_le h1 hN),allI_const,Option.bind_some,elim_ite]
      · unfold listsOk
        cases hL:o.links.all fun y=>inR y (-1) 9
        · rfl
        have e6:((o.links.length:Int)==2)=true:=by simp [a6]
        simp only [if_true,Bool.true_and,e6]
        simp only [s_l8Handle,Option.bind_some,cond_some]
        rw [c_wait hw a7,c_data o]
        rw [show (bif o.kind != 4 then (o.wait==0&&(o.got==0&&o.ran==0)) else (o.wait==0 || inR (IntKind.i64.wrap (o.wait - 1)) 0 29999)&&(inR o.got (-1) 999&&inR o.ran 0 1000000))=waitOk o from rfl]
        cases waitOk o
        · simp
        cases ((o.data.length:Int)==(bif o.kind==2 then o.pages else 0))
        · simp
        simp only [Bool.not_true,cond_false,Bool.and_true,Bool.true_and]
        rw [iter_all o.data (fun _ y=>inR y 0 999) (.inl (o.data.length:Int)) (.inr false) (Nat.lt_of_lt_of_le h2 hN),allI_const,Option.bind_some,elim_ite,c_queue o]
        · cases o.data.all fun y=>inR y 0 999
          · rfl
          simp only [if_true,Bool.true_and]
          cases decide ((o.queue.length:Int)≤(bif o.kind==3 then 2 else 0))
          · simp
          simp only [Bool.not_true,cond_false,Bool.and_true]
          rw [iter_all o.queue (fun _ y=>msgOk y) (.inl (o.queue.length:Int)) (.inr false) (Nat.lt_of_lt_of_le h3 hN),allI_const,Option.bind_some,elim_ite]
          · cases o.queue.all msgOk <;> rfl
          · intro k y hy hk
            simp only [lt_dec hk,cond_true,idx_nat,hy,Option.bind_some,wrap1 (Nat.lt_trans hk h3)]
            unfold msgOk
            cases (y.src != (-1)) <;> cases inR y.src 0 29999 <;> cases inR y.n 0 999 <;> rfl
          · simp only [ge_dec,cond_false]
        · intro k y hy hk
          simp only [lt_dec hk,cond_true,idx_nat,hy,Option.bind_some,wrap1 (Nat.lt_trans hk h2)]
          cases inR y 0 999 <;> rfl
        · simp only [ge_dec,cond_false]
      · intro k y hy hk
        have hd:decide ((k:Int)<2)=true:=by simp;omega
        simp only [hd,cond_true,idx_nat,hy,Option.bind_some,s_in,wrap1 (Nat.lt_trans hk h1)]
        cases inR y (-1) 9 <;> rfl
      · simp [hl2]
    · simp only [cond_true]
      congr 1
      symm
      rw [Bool.eq_false_iff]
      intro h
      simp only [listsOk,Bool.and_eq_true,inR_iff,beq_iff_eq] at h
      obtain ⟨b0,b1,b2,b3,b4,⟨_,_,_,b5,_,_⟩,b6⟩:=h
      have q1:inR o.kind 1 4=true:=by rw [inR_iff];omega
      have q2:inR o.box (-1) 9=true:=by rw [inR_iff];omega
      have q3:inR o.res 0 4=true:=by rw [inR_iff];omega
      have q4:inR o.til 0 1000000=true:=by rw [inR_iff];omega
      have q5:inR o.pages 0 8=true:=by rw [inR_iff];omega
      have q6:((o.links.length:Int) != 2)=false:=by simp [b5]
      have q7:inR o.ran 0 1000000=true:=by
        cases h4:o.kind != 4
        · rw [h4] at b6
          simp only [cond_false,Bool.and_eq_true] at b6
          exact b6.2.2
        · rw [h4] at b6
          simp only [cond_true,Bool.and_eq_true,beq_iff_eq] at b6
          rw [b6.2.2];decide
      simp [q1,q2,q3,q4,q5,q6,q7] at hA
  · have hk:o.kind=0:=by simpa using hk0
    simp only [cond_true,bAnd,Option.bind_some]
    congr 1
    rw [Bool.eq_iff_iff]
    obtain ⟨_,_,_,_,_,_,_,_,_,_,_,_,_⟩:=o
    simp only at hk
    subst hk
    simp [blank,inR]
end Go.Kx
