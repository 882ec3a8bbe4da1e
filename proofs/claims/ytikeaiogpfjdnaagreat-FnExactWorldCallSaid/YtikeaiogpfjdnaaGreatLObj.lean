/- Plain laws: things, arenas, heaps, taps, parts: what is right. No program in sight. -/
import Derived.Test.YtikeaiogpfjdnaaGreatLBoot
namespace Go.Kx
open Go
set_option linter.unusedVariables false
set_option linter.unusedSimpArgs false
set_option maxRecDepth 10000
theorem vU {α:Type} (p:Bool) (a b:α):(bif p then some a else some b)=some (bif p then a else b):=by cases p <;> rfl
theorem DO {ρ τ β:Type} (c:Bool) (a:ρ) (r:τ) (f:ρ→Option β) (g:τ→Option β):Sum.elim f g (if c then .inl a else .inr r)=if c then f a else g r:=by cases c <;> rfl
theorem DF (N:Nat) (a:Int):v7 N a=some (qg a 0 2):=by unfold v7;rw [ud];rfl
theorem zT (N:Nat) (a:Int):tQ N a=some (qg a 0 9):=by unfold tQ;rw [ud];rfl
theorem Bn (N:Nat) (a:Int):sJ N a=some (qg a 0 1000000):=by unfold sJ;rw [ud];rfl
theorem wg (N:Nat) (a:Int):sC N a=some (qg a 0 29999):=by unfold sC;rw [ud];rfl
theorem xF (N:Nat) (a:Int):sm N a=some (qg a 0 29999):=by unfold sm;rw [uk];rfl
theorem yz (N:Nat) (a:Int):sX N a=some (qg a 0 9):=by unfold sX;rw [uk];rfl
def Cc (m:qt):Bool:=!(bif (m.src != (-1)) then (!qg m.src 0 29999 || !qg m.n 0 999) else !qg m.n 0 999)
def yH (o:eg):Bool:=o.pS.all (fun y=>qg y (-1) 9)&&(o.data.all (fun y=>qg y 0 999)&&(o.queue.all Cc&&(((o.pS.length:Int)==2)&&(((o.data.length:Int)==(bif o.kind==2 then o.bh else 0))&&decide ((o.queue.length:Int)≤(bif o.kind==3 then 2 else 0))))))
theorem Ky {N:Nat} (hN:pR≤N) {o:eg} (ho:qd o<pR):yg N o=some (yH o):=by
  obtain ⟨h1,h2,h3⟩:=D3 ho
  unfold yg yH
  rw [rT o.pS (fun _ y=>qg y (-1) 9) (.inl (o.pS.length:Int)) (.inr false) (Nat.lt_of_lt_of_le h1 hN),si,Option.bind_some]
  · cases o.pS.all fun y=>qg y (-1) 9
    · rfl
    simp only [if_true,Sum.elim_inl,Bool.true_and]
    rw [rT o.data (fun _ y=>qg y 0 999) (.inl (o.data.length:Int)) (.inr false) (Nat.lt_of_lt_of_le h2 hN),si,Option.bind_some]
    · cases o.data.all fun y=>qg y 0 999
      · rfl
      simp only [if_true,Sum.elim_inl,Bool.true_and]
      rw [rT o.queue (fun _ y=>Cc y) (.inl (o.queue.length:Int)) (.inr false) (Nat.lt_of_lt_of_le h3 hN),si,Option.bind_some]
      · cases o.queue.all Cc
        · rfl
        simp only [if_true,Sum.elim_inl,Bool.true_and,vU,Option.bind_some]
        congr 1
        cases ((o.pS.length:Int)==2) <;> cases ((o.data.length:Int)==(bif o.kind==2 then o.bh else 0)) <;> simp
      · intro k y hy hk
        simp only [qS hk,cond_true,qx,hy,Option.bind_some,ud,wg,sG,vU,qV (Nat.lt_trans hk h3)]
        unfold Cc
        cases (y.src != (-1)) <;> cases qg y.src 0 29999 <;> cases qg y.n 0 999 <;> rfl
      · simp only [qR,cond_false]
    · intro k y hy hk
      simp only [qS hk,cond_true,qx,hy,Option.bind_some,ud,qV (Nat.lt_trans hk h2)]
      cases qg y 0 999 <;> rfl
    · simp only [qR,cond_false]
  · intro k y hy hk
    simp only [qS hk,cond_true,qx,hy,Option.bind_some,ud,qV (Nat.lt_trans hk h1)]
    cases qg y (-1) 9 <;> rfl
  · simp only [qR,cond_false]
def blank (g:Int):eg:=eg.mk g 0 0 0 0 0 0 0 0 false [] [] []
def sn (o:eg):Bool:=qg o.gen 0 999&&(qg o.kind 0 4&&(bif o.kind==0 then decide (o=blank o.gen) else
  qg o.box (-1) 9&&(qg o.res 0 4&&(qg o.qp 0 1000000&&(qg o.bh 0 8&&(yH o&&(bif o.kind != 4 then (o.wait==0&&(o.qo==0&&o.qq==0)) else
    (o.wait==0 || qg (IntKind.i64.wrap (o.wait - 1)) 0 29999)&&(qg o.qo (-1) 999&&qg o.qq 0 1000000))))))))
theorem IH {N:Nat} (hN:pR≤N) {o:eg} (ho:qd o<pR):y8 N o=some (sn o):=by
  unfold y8 sn
  simp only [ud,Ao,Bn,wg,Ky hN ho,J9 hN ho,Option.bind_some,sG,tD,vU]
  rw [show eg.mk o.gen 0 0 0 0 0 0 0 0 false [] [] []=blank o.gen from rfl]
  congr 1
  simp only [Bool.cond_true_left,Bool.cond_false_left,Bool.cond_true_right,Bool.cond_false_right,Bool.not_or,Bool.not_not,Bool.and_assoc]
  cases o.wait==0 <;> rfl
def xR (o:eg):Prop:=-9223372036854775808≤o.wait
theorem KW {n:Int} (h:-9223372036854775808≤n) (h0:n<0):qg (IntKind.i64.wrap (n - 1)) 0 29999=false:=by
  rcases Decidable.em (n=-9223372036854775808) with e | e
  · subst e;decide
  · rw [rN (by omega) (by omega)]
    simp [qg];omega
def Eb (o:eg):Bool:=bif o.kind != 4 then (o.wait==0&&(o.qo==0&&o.qq==0)) else
    (o.wait==0 || qg (IntKind.i64.wrap (o.wait - 1)) 0 29999)&&(qg o.qo (-1) 999&&qg o.qq 0 1000000)
theorem M3 {o : eg} (hw : xR o) (hr : qg o.qq 0 1000000 = true) : (bif o.kind != 4 then bif o.wait != 0 then true else bif o.qo != 0 then true else bif o.qq != 0 then true else bif o.kind == 4 then
      bif decide (o.wait < 0) then true else bif decide (o.wait > 0) then !qg (IntKind.i64.wrap (o.wait - 1)) 0 29999 || !qg o.qo (-1) 999 else !qg o.qo (-1) 999 else false
    else bif o.kind == 4 then bif decide (o.wait < 0) then true else bif decide (o.wait > 0) then !qg (IntKind.i64.wrap (o.wait - 1)) 0 29999 || !qg o.qo (-1) 999 else !qg o.qo (-1) 999 else false) = !Eb o := by
  unfold Eb
  simp only [bne, hr]
  cases o.kind == 4
  · simp only [Bool.not_false, cond_true, cond_false]
    cases o.wait == 0 <;> cases o.qo == 0 <;> cases o.qq == 0 <;> rfl
  · simp only [Bool.not_true, cond_true, cond_false]
    rcases Int.lt_trichotomy o.wait 0 with h | h | h
    · have e1 : decide (o.wait < 0) = true := by simpa using h
      have e2 : (o.wait == 0) = false := by simp; omega
      rw [e1, e2, KW hw h]; rfl
    · simp only [h]
      cases qg o.qo (-1) 999 <;> rfl
    · have e1 : decide (o.wait < 0) = false := by simp; omega
      have e2 : (o.wait == 0) = false := by simp; omega
      have e3 : decide (o.wait > 0) = true := by simpa using h
      rw [e1, e2, e3]
      cases qg (IntKind.i64.wrap (o.wait - 1)) 0 29999 <;> cases qg o.qo (-1) 999 <;> rfl
theorem N9 (o:eg):(bif (o.data.length:Int) != 0 then bif o.kind != 2 then true else bif (o.data.length:Int) != o.bh then true else bif o.kind==2 then (o.data.length:Int) != o.bh else false
    else bif o.kind==2 then (o.data.length:Int) != o.bh else false)=!((o.data.length:Int)==(bif o.kind==2 then o.bh else 0)):=by
  simp only [bne]
  cases o.kind==2 <;> cases h:((o.data.length:Int)==0) <;> cases h2:((o.data.length:Int)==o.bh) <;> simp [h,h2]
theorem MJ (o:eg):(bif decide ((o.queue.length:Int) > 2) then true else bif decide ((o.queue.length:Int) > 0) then o.kind != 3 else false)=!decide ((o.queue.length:Int)≤(bif o.kind==3 then 2 else 0)):=by
  simp only [bne]
  cases o.kind==3
  · simp only [cond_false]
    rcases Nat.lt_trichotomy o.queue.length 0 with h | h | h
    · omega
    · simp [h]
    · rw [decide_eq_true (show (o.queue.length:Int) > 0 by omega),decide_eq_false (show ¬ ((o.queue.length:Int)≤0) by omega)]
      cases decide ((o.queue.length:Int) > 2) <;> rfl
  · simp only [cond_true]
    rcases Nat.lt_or_ge 2 o.queue.length with h | h
    · rw [decide_eq_true (show (o.queue.length:Int) > 2 by omega),decide_eq_false (show ¬ ((o.queue.length:Int)≤2) by omega)];rfl
    · rw [decide_eq_false (show ¬ ((o.queue.length:Int) > 2) by omega),decide_eq_true (show (o.queue.length:Int)≤2 by omega)]
      cases decide ((o.queue.length:Int) > 0) <;> rfl
theorem Ir {N:Nat} (hN:pR≤N) {o:eg} (ho:qd o<pR) (hw:xR o):yT N o=some (sn o):=by
  obtain ⟨h1,h2,h3⟩:=D3 ho
  unfold yT sn
  rw [uk,Option.bind_some]
  cases hg:qg o.gen 0 999
  · rfl
  simp only [Bool.not_true,cond_false,Bool.true_and]
  cases hk0:o.kind==0
  · simp only [cond_false,uk,AX,Option.bind_some,sG]
    have hk0':o.kind ≠ 0:=by simpa using hk0
    cases hA:(!qg o.kind 1 4 || (!qg o.box (-1) 9 || (!qg o.res 0 4 || (!qg o.qp 0 1000000 || (!qg o.bh 0 8 || ((o.pS.length:Int) != 2 || !qg o.qq 0 1000000))))))
    · simp only [Bool.or_eq_false_iff,Bool.not_eq_false',bne_eq_false_iff_eq] at hA
      obtain ⟨a1,a2,a3,a4,a5,a6,a7⟩:=hA
      have a1':qg o.kind 0 4=true:=by rw [rL] at a1 ⊢;omega
      have hl2:o.pS.length=2:=by omega
      simp only [cond_false,a1',a2,a3,a4,a5,Bool.true_and]
      rw [rT o.pS (fun _ y=>qg y (-1) 9) (.inl (2:Int)) (.inr false) (Nat.lt_of_lt_of_le h1 hN),si,Option.bind_some,DO]
      · unfold yH
        cases hL:o.pS.all fun y=>qg y (-1) 9
        · rfl
        have e6:((o.pS.length:Int)==2)=true:=by simp [a6]
        simp only [if_true,Bool.true_and,e6]
        simp only [xF,Option.bind_some,vU]
        rw [M3 hw a7,N9 o]
        rw [show (bif o.kind != 4 then (o.wait==0&&(o.qo==0&&o.qq==0)) else (o.wait==0 || qg (IntKind.i64.wrap (o.wait - 1)) 0 29999)&&(qg o.qo (-1) 999&&qg o.qq 0 1000000))=Eb o from rfl]
        cases Eb o
        · simp
        cases ((o.data.length:Int)==(bif o.kind==2 then o.bh else 0))
        · simp
        simp only [Bool.not_true,cond_false,Bool.and_true,Bool.true_and]
        rw [rT o.data (fun _ y=>qg y 0 999) (.inl (o.data.length:Int)) (.inr false) (Nat.lt_of_lt_of_le h2 hN),si,Option.bind_some,DO,MJ o]
        · cases o.data.all fun y=>qg y 0 999
          · rfl
          simp only [if_true,Bool.true_and]
          cases decide ((o.queue.length:Int)≤(bif o.kind==3 then 2 else 0))
          · simp
          simp only [Bool.not_true,cond_false,Bool.and_true]
          rw [rT o.queue (fun _ y=>Cc y) (.inl (o.queue.length:Int)) (.inr false) (Nat.lt_of_lt_of_le h3 hN),si,Option.bind_some,DO]
          · cases o.queue.all Cc <;> rfl
          · intro k y hy hk
            simp only [qS hk,cond_true,qx,hy,Option.bind_some,qV (Nat.lt_trans hk h3)]
            unfold Cc
            cases (y.src != (-1)) <;> cases qg y.src 0 29999 <;> cases qg y.n 0 999 <;> rfl
          · simp only [qR,cond_false]
        · intro k y hy hk
          simp only [qS hk,cond_true,qx,hy,Option.bind_some,qV (Nat.lt_trans hk h2)]
          cases qg y 0 999 <;> rfl
        · simp only [qR,cond_false]
      · intro k y hy hk
        have hd:decide ((k:Int)<2)=true:=by simp;omega
        simp only [hd,cond_true,qx,hy,Option.bind_some,uk,qV (Nat.lt_trans hk h1)]
        cases qg y (-1) 9 <;> rfl
      · simp [hl2]
    · simp only [cond_true]
      congr 1
      symm
      rw [Bool.eq_false_iff]
      intro h
      simp only [yH,Bool.and_eq_true,rL,beq_iff_eq] at h
      obtain ⟨b0,b1,b2,b3,b4,⟨_,_,_,b5,_,_⟩,b6⟩:=h
      have q1:qg o.kind 1 4=true:=by rw [rL];omega
      have q2:qg o.box (-1) 9=true:=by rw [rL];omega
      have q3:qg o.res 0 4=true:=by rw [rL];omega
      have q4:qg o.qp 0 1000000=true:=by rw [rL];omega
      have q5:qg o.bh 0 8=true:=by rw [rL];omega
      have q6:((o.pS.length:Int) != 2)=false:=by simp [b5]
      have q7:qg o.qq 0 1000000=true:=by
        cases h4:o.kind != 4
        · rw [h4] at b6
          simp only [cond_false,Bool.and_eq_true] at b6
          exact b6.2.2
        · rw [h4] at b6
          simp only [cond_true,Bool.and_eq_true,beq_iff_eq] at b6
          rw [b6.2.2];decide
      simp [q1,q2,q3,q4,q5,q6,q7] at hA
  · have hk:o.kind=0:=by simpa using hk0
    simp only [cond_true,tD,Option.bind_some]
    congr 1
    rw [Bool.eq_iff_iff]
    obtain ⟨_,_,_,_,_,_,_,_,_,_,_,_,_⟩:=o
    simp only at hk
    subst hk
    simp [blank,qg]
end Go.Kx
/- Plain laws: arenas, heaps, pN, parts: what is right. No program in sight. -/
namespace Go.Kx
open Go
set_option linter.unusedVariables false
set_option linter.unusedSimpArgs false
set_option maxRecDepth 10000
theorem z4 {o:eg} (h:sn o=true):o.pS.length≤2∧∀ y,y ∈ o.pS→-1≤y∧y≤9:=by
  unfold sn at h
  cases hk:o.kind==0
  · simp only [hk,cond_false,Bool.and_eq_true] at h
    obtain ⟨_,_,_,_,_,_,hl,_⟩:=h
    unfold yH at hl
    simp only [Bool.and_eq_true,List.all_eq_true,rL,beq_iff_eq] at hl
    exact ⟨by omega,hl.1⟩
  · simp only [hk,cond_true,Bool.and_eq_true,decide_eq_true_eq] at h
    rw [h.2.2];simp [blank]
theorem JO {o:eg} (h:sn o=true) (hk:(o.kind != 0)=true):qg o.box (-1) 9=true∧qg o.res 0 4=true∧qg o.qp 0 1000000=true∧qg o.bh 0 8=true:=by
  unfold sn at h
  have hk:(o.kind==0)=false:=by simpa [bne] using hk
  simp only [hk,cond_false,Bool.and_eq_true] at h
  exact ⟨h.2.2.1,h.2.2.2.1,h.2.2.2.2.1,h.2.2.2.2.2.1⟩
def Ag (l:List eg) (i:Int):Bool:=(nth l i).kind==0
def A2 (l:List eg) (o:eg):Bool:=o.pS.all fun y=>!(decide (y ≥ 0)&&Ag l y)
def zw (l:List eg) (k:Nat) (o:eg):Bool:=(sn o&&!(decide ((k:Int) > 0)&&(o.kind != 0&&(decide (o.box ≥ 0)&&Ag l o.box))))&&A2 l o
def AT (l:List eg):Bool:=((nth l 0).kind != 1) || (((nth l 0).box != (-1)) || ((nth l 0).qp != 1000000))
def rX (l:List eg):Bool:=!((l.length:Int) != 10)&&(!AT l&&allI (zw l) 0 l)
theorem ET {N:Nat} (hN:pR≤N) {l:List eg} (hl:l.length=10) {o:eg} (ho:o.pS.length≤2) (hr:∀ y,y ∈ o.pS→-1≤y∧y≤9) :
    iter (fun (s75:Int)=>(bif (decide (s75<(o.pS.length:Int))) then ((idx o.pS s75).bind fun y96=>(bif (decide (y96 ≥ 0)) then ((idx l y96).bind fun y108=>some (y108.kind==0)) else (some false):Option Bool).bind fun j105=>bif j105 then (some (.inr (.inr false))) else (some (.inl (IntKind.i64.wrap (s75+1))))) else (some (.inr (.inl s75))):Option (Int⊕(Int⊕Bool)))) N 0=some (if A2 l o then .inl (o.pS.length:Int) else .inr false):=by
  have hB:o.pS.length<pR:=Nat.lt_of_le_of_lt ho (by decide)
  rw [rT o.pS (fun _ y=>!(decide (y ≥ 0)&&Ag l y)) (.inl (o.pS.length:Int)) (.inr false) (Nat.lt_of_lt_of_le hB hN),si]
  · rfl
  · intro k y hy hk
    have hm:=hr y (List.mem_of_getElem? hy)
    simp only [qS hk,cond_true,qx,hy,Option.bind_some,qV (Nat.lt_trans hk hB)]
    cases h0:decide (y ≥ 0)
    · rfl
    · have h0:y ≥ 0:=by simpa using h0
      simp only [cond_true,rl (l:=l) (i:=y) h0 (by omega),Option.bind_some,Bool.true_and]
      unfold Ag
      cases (nth l y).kind==0 <;> rfl
  · simp only [qR,cond_false]
theorem IK {l:List eg} (hl:l.length=10) {o:eg} (ho:sn o=true):(bif (decide (o.box ≥ 0)) then ((idx l o.box).bind fun y58=>some (y58.kind==0)) else (some false):Option Bool)=some (decide (o.box ≥ 0)&&Ag l o.box)∨(o.kind != 0)=false:=by
  cases hk:o.kind != 0
  · exact .inr rfl
  · left
    obtain ⟨hb,_⟩:=JO ho hk
    rw [rL] at hb
    cases h0:decide (o.box ≥ 0)
    · rfl
    · have h0:o.box ≥ 0:=by simpa using h0
      simp only [cond_true,rl (l:=l) (i:=o.box) h0 (by omega),Option.bind_some,Bool.true_and];rfl
theorem Bz {N:Nat} (hN:pR≤N) {l:List eg} (hb:qZ qd l<pR):uD N l=some (rX l):=by
  have hlB:=rQ hb
  unfold uD rX
  cases h10:((l.length:Int) != 10)
  · have hl:l.length=10:=CM (n:=10) h10
    rw [rl (l:=l) (i:=0) (by omega) (by omega)]
    simp only [cond_false,Option.bind_some,sG,Bool.not_false,Bool.true_and]
    rw [show ((nth l 0).kind != 1 || ((nth l 0).box != (-1) || (nth l 0).qp != 1000000))=AT l from rfl]
    cases AT l
    · simp only [cond_false,Bool.not_false,Bool.true_and]
      rw [rT l (zw l) (.inl (l.length:Int)) (.inr false) (Nat.lt_of_lt_of_le hlB hN)]
      · simp only [Option.bind_some];cases allI (zw l) 0 l <;> rfl
      · intro k y hy hk
        have hm:=List.mem_of_getElem? hy
        simp only [qS hk,cond_true,qx,hy,Option.bind_some,IH hN (rp hb hm),qV (Nat.lt_trans hk hlB)]
        unfold zw
        cases ho:sn y
        · rfl
        · obtain ⟨q1,q2⟩:=z4 ho
          rw [ET hN hl q1 q2]
          rcases IK hl ho with q | q
          · rw [q]
            simp only [Bool.not_true,cond_false,Bool.true_and,tD,Option.bind_some]
            cases (decide ((k:Int) > 0)&&(y.kind != 0&&(decide (y.box ≥ 0)&&Ag l y.box))) <;> cases A2 l y <;> rfl
          · simp only [q,Bool.not_true,cond_false,Bool.true_and,Bool.false_and,Bool.and_false,tD,Option.bind_some]
            cases A2 l y <;> rfl
      · simp only [qR,cond_false]
    · rfl
  · rfl
def wA (l:List eg):Prop:=∀ o,o ∈ l→xR o
theorem yW {N:Nat} (hN:pR≤N) {l:List eg} (hb:qZ qd l<pR) (hw:wA l):tc N l=some (rX l):=by
  have hlB:=rQ hb
  unfold tc rX
  cases h10:((l.length:Int) != 10)
  · have hl:l.length=10:=CM (n:=10) h10
    rw [rl (l:=l) (i:=0) (by omega) (by omega)]
    simp only [cond_false,Option.bind_some,sG,Bool.not_false,Bool.true_and]
    rw [show ((nth l 0).kind != 1 || ((nth l 0).box != (-1) || (nth l 0).qp != 1000000))=AT l from rfl]
    cases AT l
    · simp only [cond_false,Bool.not_false,Bool.true_and]
      rw [rT l (zw l) (.inl (l.length:Int)) (.inr false) (Nat.lt_of_lt_of_le hlB hN)]
      · simp only [Option.bind_some];cases allI (zw l) 0 l <;> rfl
      · intro k y hy hk
        have hm:=List.mem_of_getElem? hy
        simp only [qS hk,cond_true,qx,hy,Option.bind_some,Ir hN (rp hb hm) (hw y hm),qV (Nat.lt_trans hk hlB)]
        unfold zw
        cases ho:sn y
        · rfl
        · obtain ⟨q1,q2⟩:=z4 ho
          rw [ET hN hl q1 q2]
          rcases IK hl ho with q | q
          · rw [q]
            simp only [Bool.not_true,cond_false,Bool.true_and,tD,Option.bind_some]
            cases y.kind != 0 <;> cases decide ((k:Int) > 0) <;> cases (decide (y.box ≥ 0)&&Ag l y.box) <;> cases A2 l y <;> rfl
          · simp only [q,Bool.not_true,cond_false,Bool.true_and,Bool.false_and,Bool.and_false,tD,Option.bind_some]
            cases A2 l y <;> rfl
      · simp only [qR,cond_false]
    · rfl
  · rfl
theorem BU {N:Nat} (hN:pR≤N) {l:List Int} {x:Int} (hb:l.length<pR):tq N l x=some (l.contains x):=by
  unfold tq
  rw [rT l (fun _ y=>!(y==x)) (.inl (l.length:Int)) (.inr true) (Nat.lt_of_lt_of_le hb hN),si]
  · have:(l.all fun y=>!(y==x))=!l.contains x:=by
      induction l with
      | nil=>rfl
      | cons y l ih =>
        have ih:=ih (Nat.lt_trans (Nat.lt_succ_self _) hb)
        rw [List.all_cons,ih,List.contains_cons,Bool.beq_comm (a:=x)]
        cases (y==x) <;> rfl
    rw [this,Option.bind_some]
    cases l.contains x <;> rfl
  · intro k y hy hk
    simp only [qS hk,cond_true,qx,hy,Option.bind_some,qV (Nat.lt_trans hk hb)]
    cases (y==x) <;> rfl
  · simp only [qR,cond_false]
def By (g:List Int) (k:Nat) (y:Int):Bool:=qg y 0 9&&!(g.take k).contains y
def EE (g:rr):Bool:=((g.phase==0)&&(g.pos==0)) || ((g.phase==1)&&(qg g.pos 0 9&&((g.j8.length:Int)==0)))
def tB (h:qe):Bool:=rX h.ag&&(EE h.gc&&(qg h.gc.round 0 1000000&&allI (By h.gc.j8) 0 h.gc.j8))
theorem IB {α:Type} {l:List α} {k:Nat} (h:l.length<pR):(l.take k).length<pR:=Nat.lt_of_le_of_lt (by simp;omega) h
theorem DI {N:Nat} (hN:pR≤N) {h:qe} (h1:qZ qd h.ag<pR) (h2:h.gc.j8.length<pR):vY N h=some (tB h):=by
  unfold vY tB
  rw [rT h.gc.j8 (By h.gc.j8) (.inl (h.gc.j8.length:Int)) (.inr false) (Nat.lt_of_lt_of_le h2 hN)]
  · simp only [Option.bind_some,zT,Bn,Bz hN h1,tD]
    cases allI (By h.gc.j8) 0 h.gc.j8
    · simp
    · simp only [if_true,Sum.elim_inl,Bool.and_true]
      unfold EE
      cases rX h.ag
      · rfl
      cases ((h.gc.phase==0)&&(h.gc.pos==0))
      · cases ((h.gc.phase==1)&&(qg h.gc.pos 0 9&&((h.gc.j8.length:Int)==0))) <;> rfl
      · rfl
  · intro k y hy hk
    simp only [qS hk,cond_true,qx,hy,Option.bind_some,zT,Dy (Nat.le_of_lt hk),zs hN (IB h2),qV (Nat.lt_trans hk h2)]
    unfold By
    cases qg y 0 9 <;> cases (h.gc.j8.take k).contains y <;> rfl
  · simp only [qR,cond_false]
theorem Mv (n:Nat):decide ((n:Int) > 0)=!((n:Int)==0):=by
  cases n with
  | zero=>rfl
  | succ n=>rw [decide_eq_true (by omega)];simp;omega
theorem DD {N:Nat} (hN:pR≤N) {h:qe} (h1:qZ qd h.ag<pR) (h2:h.gc.j8.length<pR) (hw:wA h.ag):v9 N h=some (tB h):=by
  unfold v9 tB
  rw [rT h.gc.j8 (By h.gc.j8) (.inl (h.gc.j8.length:Int)) (.inr false) (Nat.lt_of_lt_of_le h2 hN)]
  · simp only [Option.bind_some,yz,uk,yW hN h1 hw,sG,Mv]
    cases rX h.ag
    · rfl
    cases qg h.gc.round 0 1000000
    · simp
    unfold EE
    by_cases q0:h.gc.phase=0
    · have e0:(h.gc.phase==0)=true:=by simp [q0]
      have e1:(h.gc.phase==1)=false:=by simp [q0]
      have e2:qg h.gc.phase 0 1=true:=by rw [q0];decide
      rw [e0,e1,e2]
      simp only [bne]
      cases h.gc.pos==0
      · rfl
      · cases allI (By h.gc.j8) 0 h.gc.j8 <;> rfl
    by_cases q1:h.gc.phase=1
    · have e0:(h.gc.phase==0)=false:=by simp [q1]
      have e1:(h.gc.phase==1)=true:=by simp [q1]
      have e2:qg h.gc.phase 0 1=true:=by rw [q1];decide
      rw [e0,e1,e2]
      cases qg h.gc.pos 0 9
      · rfl
      cases ((h.gc.j8.length:Int)==0)
      · rfl
      · cases allI (By h.gc.j8) 0 h.gc.j8 <;> rfl
    · have e0:(h.gc.phase==0)=false:=by simp [q0]
      have e1:(h.gc.phase==1)=false:=by simp [q1]
      have e2:qg h.gc.phase 0 1=false:=by
        rw [Bool.eq_false_iff,Ne,rL];omega
      rw [e0,e1,e2];rfl
  · intro k y hy hk
    simp only [qS hk,cond_true,qx,hy,Option.bind_some,yz,Dy (Nat.le_of_lt hk),BU hN (IB h2),qV (Nat.lt_trans hk h2)]
    unfold By
    cases qg y 0 9 <;> cases (h.gc.j8.take k).contains y <;> rfl
  · simp only [qR,cond_false]
def uU (t:qy):Bool:=(qg t.res 0 4&&(qg t.ss 0 2&&(qg t.ta 0 4&&qg t.s7 0 2)))&&(((t.kind==1)&&qg t.tv 0 1000) || ((t.kind==2)&&qg t.tv 0 100))
theorem It (N:Nat) (t:qy):yG N t=some (uU t):=by
  unfold yG uU
  simp only [Ao,DF,ud,Option.bind_some,sG,tD]
  by_cases q:t.kind=1
  · have e1:(t.kind==1)=true:=by simp [q]
    have e2:(t.kind==2)=false:=by simp [q]
    rw [e1,e2]
    cases qg t.res 0 4 <;> cases qg t.ta 0 4 <;> cases qg t.ss 0 2 <;> cases qg t.s7 0 2 <;> cases qg t.tv 0 1000 <;> rfl
  · have e1:(t.kind==1)=false:=by simp [q]
    rw [e1]
    cases qg t.res 0 4 <;> cases qg t.ta 0 4 <;> cases qg t.ss 0 2 <;> cases qg t.s7 0 2 <;> cases (t.kind==2) <;> cases qg t.tv 0 100 <;> rfl
theorem Ix (N:Nat) (t:qy):zb N t=some (uU t):=by
  unfold zb uU
  simp only [AX,uk,Option.bind_some,sG,tD]
  by_cases q:t.kind=1
  · have e1:(t.kind==1)=true:=by simp [q]
    have e2:(t.kind==2)=false:=by simp [q]
    rw [e1,e2]
    cases qg t.res 0 4 <;> cases qg t.ss 0 2 <;> cases qg t.ta 0 4 <;> cases qg t.s7 0 2 <;> cases qg t.tv 0 1000 <;> rfl
  · have e1:(t.kind==1)=false:=by simp [q]
    rw [e1]
    cases qg t.res 0 4 <;> cases qg t.ss 0 2 <;> cases qg t.ta 0 4 <;> cases qg t.s7 0 2 <;> cases (t.kind==2) <;> cases qg t.tv 0 100 <;> rfl
def Gy (p:cd):Bool:=qg p.next 0 9&&(qg p.want 0 10&&(qX p.dz&&(qg p.pV 0 1000000&&qg p.lost 0 1000000)))
def rV (p:cd):Bool:=tE p.label&&(z7 p.own&&(r7 p.tree&&(tB p.heap&&(!decide ((p.pN.length:Int) > 3)&&(p.pN.all uU&&Gy p)))))
theorem DS {N:Nat} (hN:pR≤N) {p:cd} (h:qm p<pR):wa N p=some (rV p):=by
  obtain ⟨h1,h2,h3,h4,h5,h6⟩:=sc h
  unfold wa rV
  rw [rT p.pN (fun _ t=>uU t) (.inl (p.pN.length:Int)) (.inr false) (Nat.lt_of_lt_of_le h6 hN),si]
  · simp only [Option.bind_some,C0 hN h1,Im hN h2,zR hN,DI hN h4 h5,zT,ud,xH,Bn,sG,tD]
    rw [show (qg p.next 0 9&&(qg p.want 0 10&&(qX p.dz&&(qg p.pV 0 1000000&&qg p.lost 0 1000000))))=Gy p from rfl]
    cases p.pN.all uU
    · simp
    · simp only [if_true,Sum.elim_inl,Bool.true_and]
      cases tE p.label <;> cases z7 p.own <;> cases r7 p.tree <;> cases tB p.heap <;> cases decide ((p.pN.length:Int) > 3) <;> rfl
  · intro k y hy hk
    simp only [qS hk,cond_true,qx,hy,Option.bind_some,It,qV (Nat.lt_trans hk h6)]
    cases uU y <;> rfl
  · simp only [qR,cond_false]
def wP (p:cd):Prop:=wA p.heap.ag
theorem DJ {N:Nat} (hN:pR≤N) {p:cd} (h:qm p<pR) (hw:wP p):wi N p=some (rV p):=by
  obtain ⟨h1,h2,h3,h4,h5,h6⟩:=sc h
  unfold wi rV
  rw [rT p.pN (fun _ t=>uU t) (.inl (p.pN.length:Int)) (.inr false) (Nat.lt_of_lt_of_le h6 hN),si]
  · simp only [Option.bind_some,CD hN h1,Iv hN h2,Ci hN,DD hN h4 h5 hw,yz,uk,yF,sG,tD]
    unfold Gy
    cases tE p.label
    · rfl
    cases z7 p.own
    · rfl
    cases r7 p.tree
    · rfl
    cases tB p.heap
    · rfl
    cases decide ((p.pN.length:Int) > 3)
    · simp only [Bool.not_true,Bool.not_false,Bool.false_or,Bool.true_and]
      cases qg p.next 0 9 <;> cases qg p.want 0 10 <;> cases qX p.dz <;> cases qg p.pV 0 1000000 <;> cases qg p.lost 0 1000000 <;> cases p.pN.all uU <;> rfl
    · rfl
  · intro k y hy hk
    simp only [qS hk,cond_true,qx,hy,Option.bind_some,Ix,qV (Nat.lt_trans hk h6)]
    cases uU y <;> rfl
  · simp only [qR,cond_false]
theorem NW {l:List eg} (h:Fit.fit l):wA l:=fun o ho=>(h.2 o ho).2.2.2.2.2.2.1.1
theorem M8 {p:cd} (h:Fit.fit p):wP p:=NW h.2.2.2.1.1
end Go.Kx
