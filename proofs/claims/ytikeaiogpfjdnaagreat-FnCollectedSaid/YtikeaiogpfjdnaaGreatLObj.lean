/- Plain laws: things, arenas, heaps, taps, parts: what is right. No program in sight. -/
import Derived.Test.YtikeaiogpfjdnaaGreatLTree
import Derived.Test.YtikeaiogpfjdnaaGreatLBoot
namespace Go.Kx
open Go
set_option linter.unusedVariables false
set_option linter.unusedSimpArgs false
set_option maxRecDepth 10000
theorem oc {α:Type} (p:Bool) (a b:α):(bif p then some a else some b)=some (bif p then a else b):=by cases p <;> rfl
theorem wt {ρ τ β:Type} (c:Bool) (a:ρ) (r:τ) (f:ρ→Option β) (g:τ→Option β):Sum.elim f g (if c then .inl a else .inr r)=if c then f a else g r:=by cases c <;> rfl
theorem Dz (N:Nat) (a:Int):qU N a=some (iE a 0 2):=by unfold qU;rw [oV];rfl
theorem v8 (N:Nat) (a:Int):nw N a=some (iE a 0 9):=by unfold nw;rw [oV];rfl
theorem vV (N:Nat) (a:Int):kZ N a=some (iE a 0 1000000):=by unfold kZ;rw [oV];rfl
theorem xc (N:Nat) (a:Int):m5 N a=some (iE a 0 29999):=by unfold m5;rw [oV];rfl
theorem oN (N:Nat) (a:Int):kt N a=some (iE a 0 29999):=by unfold kt;rw [mw];rfl
theorem pU (N:Nat) (a:Int):kM N a=some (iE a 0 9):=by unfold kM;rw [mw];rfl
def uf (m:jq):Bool:=!(bif (m.src != (-1)) then (!iE m.src 0 29999 || !iE m.n 0 999) else !iE m.n 0 999)
def mB (o:bh):Bool:=o.ib.all (fun y=>iE y (-1) 9)&&(o.data.all (fun y=>iE y 0 999)&&(o.queue.all uf&&(((o.ib.length:Int)==2)&&(((o.data.length:Int)==(bif o.kind==2 then o.cd else 0))&&decide ((o.queue.length:Int)≤(bif o.kind==3 then 2 else 0))))))
theorem Cr {N:Nat} (hN:iy≤N) {o:bh} (ho:iu o<iy):pc N o=some (mB o):=by
  obtain ⟨h1,h2,h3⟩:=vy ho
  unfold pc mB
  rw [jX o.ib (fun _ y=>iE y (-1) 9) (.inl (o.ib.length:Int)) (.inr false) (Nat.lt_of_lt_of_le h1 hN),ky,Option.bind_some]
  · cases o.ib.all fun y=>iE y (-1) 9
    · rfl
    simp only [if_true,Sum.elim_inl,Bool.true_and]
    rw [jX o.data (fun _ y=>iE y 0 999) (.inl (o.data.length:Int)) (.inr false) (Nat.lt_of_lt_of_le h2 hN),ky,Option.bind_some]
    · cases o.data.all fun y=>iE y 0 999
      · rfl
      simp only [if_true,Sum.elim_inl,Bool.true_and]
      rw [jX o.queue (fun _ y=>uf y) (.inl (o.queue.length:Int)) (.inr false) (Nat.lt_of_lt_of_le h3 hN),ky,Option.bind_some]
      · cases o.queue.all uf
        · rfl
        simp only [if_true,Sum.elim_inl,Bool.true_and,oc,Option.bind_some]
        congr 1
        cases ((o.ib.length:Int)==2) <;> cases ((o.data.length:Int)==(bif o.kind==2 then o.cd else 0)) <;> simp
      · intro k y hy hk
        simp only [jt hk,cond_true,iT,hy,Option.bind_some,oV,xc,lG,oc,jo (Nat.lt_trans hk h3)]
        unfold uf
        cases (y.src != (-1)) <;> cases iE y.src 0 29999 <;> cases iE y.n 0 999 <;> rfl
      · simp only [ju,cond_false]
    · intro k y hy hk
      simp only [jt hk,cond_true,iT,hy,Option.bind_some,oV,jo (Nat.lt_trans hk h2)]
      cases iE y 0 999 <;> rfl
    · simp only [ju,cond_false]
  · intro k y hy hk
    simp only [jt hk,cond_true,iT,hy,Option.bind_some,oV,jo (Nat.lt_trans hk h1)]
    cases iE y (-1) 9 <;> rfl
  · simp only [ju,cond_false]
def blank (g:Int):bh:=bh.mk g 0 0 0 0 0 0 0 0 false [] [] []
def jF (o:bh):Bool:=iE o.gen 0 999&&(iE o.kind 0 4&&(bif o.kind==0 then decide (o=blank o.gen) else
  iE o.box (-1) 9&&(iE o.res 0 4&&(iE o.iN 0 1000000&&(iE o.cd 0 8&&(mB o&&(bif o.kind != 4 then (o.wait==0&&(o.iO==0&&o.iP==0)) else
    (o.wait==0 || iE (IntKind.i64.wrap (o.wait - 1)) 0 29999)&&(iE o.iO (-1) 999&&iE o.iP 0 1000000))))))))
theorem ED {N:Nat} (hN:iy≤N) {o:bh} (ho:iu o<iy):rz N o=some (jF o):=by
  unfold rz jF
  simp only [oV,uP,vV,xc,Cr hN ho,C2 hN ho,Option.bind_some,lG,lp,oc]
  rw [show bh.mk o.gen 0 0 0 0 0 0 0 0 false [] [] []=blank o.gen from rfl]
  congr 1
  simp only [Bool.cond_true_left,Bool.cond_false_left,Bool.cond_true_right,Bool.cond_false_right,Bool.not_or,Bool.not_not,Bool.and_assoc]
  cases o.wait==0 <;> rfl
def lQ (o:bh):Prop:=-9223372036854775808≤o.wait
theorem Di {n:Int} (h:-9223372036854775808≤n) (h0:n<0):iE (IntKind.i64.wrap (n - 1)) 0 29999=false:=by
  rcases Decidable.em (n=-9223372036854775808) with e | e
  · subst e;decide
  · rw [iM (by omega) (by omega)]
    simp [iE];omega
def wW (o:bh):Bool:=bif o.kind != 4 then (o.wait==0&&(o.iO==0&&o.iP==0)) else
    (o.wait==0 || iE (IntKind.i64.wrap (o.wait - 1)) 0 29999)&&(iE o.iO (-1) 999&&iE o.iP 0 1000000)
theorem EZ {o : bh} (hw : lQ o) (hr : iE o.iP 0 1000000 = true) : (bif o.kind != 4 then bif o.wait != 0 then true else bif o.iO != 0 then true else bif o.iP != 0 then true else bif o.kind == 4 then
      bif decide (o.wait < 0) then true else bif decide (o.wait > 0) then !iE (IntKind.i64.wrap (o.wait - 1)) 0 29999 || !iE o.iO (-1) 999 else !iE o.iO (-1) 999 else false
    else bif o.kind == 4 then bif decide (o.wait < 0) then true else bif decide (o.wait > 0) then !iE (IntKind.i64.wrap (o.wait - 1)) 0 29999 || !iE o.iO (-1) 999 else !iE o.iO (-1) 999 else false) = !wW o := by
  unfold wW
  simp only [bne, hr]
  cases o.kind == 4
  · simp only [Bool.not_false, cond_true, cond_false]
    cases o.wait == 0 <;> cases o.iO == 0 <;> cases o.iP == 0 <;> rfl
  · simp only [Bool.not_true, cond_true, cond_false]
    rcases Int.lt_trichotomy o.wait 0 with h | h | h
    · have e1 : decide (o.wait < 0) = true := by simpa using h
      have e2 : (o.wait == 0) = false := by simp; omega
      rw [e1, e2, Di hw h]; rfl
    · simp only [h]
      cases iE o.iO (-1) 999 <;> rfl
    · have e1 : decide (o.wait < 0) = false := by simp; omega
      have e2 : (o.wait == 0) = false := by simp; omega
      have e3 : decide (o.wait > 0) = true := by simpa using h
      rw [e1, e2, e3]
      cases iE (IntKind.i64.wrap (o.wait - 1)) 0 29999 <;> cases iE o.iO (-1) 999 <;> rfl
theorem Fc (o:bh):(bif (o.data.length:Int) != 0 then bif o.kind != 2 then true else bif (o.data.length:Int) != o.cd then true else bif o.kind==2 then (o.data.length:Int) != o.cd else false
    else bif o.kind==2 then (o.data.length:Int) != o.cd else false)=!((o.data.length:Int)==(bif o.kind==2 then o.cd else 0)):=by
  simp only [bne]
  cases o.kind==2 <;> cases h:((o.data.length:Int)==0) <;> cases h2:((o.data.length:Int)==o.cd) <;> simp [h,h2]
theorem Ee (o:bh):(bif decide ((o.queue.length:Int) > 2) then true else bif decide ((o.queue.length:Int) > 0) then o.kind != 3 else false)=!decide ((o.queue.length:Int)≤(bif o.kind==3 then 2 else 0)):=by
  simp only [bne]
  cases o.kind==3
  · simp only [cond_false]
    rcases Nat.lt_trichotomy o.queue.length 0 with h | h | h
    · omega
    · simp [h]
    · rw [decide_eq_true (show (o.queue.length:Int) > 0 by omega),decide_eq_false (show ¬ ((o.queue.length:Int)≤0) by omega)]
      cases decide ((o.queue.length:Int) > 2) <;> rfl
  · simp only [cond_true]
    rcases Nat.lt_or_ge 2 o.queue.length with h | h
    · rw [decide_eq_true (show (o.queue.length:Int) > 2 by omega),decide_eq_false (show ¬ ((o.queue.length:Int)≤2) by omega)];rfl
    · rw [decide_eq_false (show ¬ ((o.queue.length:Int) > 2) by omega),decide_eq_true (show (o.queue.length:Int)≤2 by omega)]
      cases decide ((o.queue.length:Int) > 0) <;> rfl
theorem A9 {N:Nat} (hN:iy≤N) {o:bh} (ho:iu o<iy) (hw:lQ o):pY N o=some (jF o):=by
  obtain ⟨h1,h2,h3⟩:=vy ho
  unfold pY jF
  rw [mw,Option.bind_some]
  cases hg:iE o.gen 0 999
  · rfl
  simp only [Bool.not_true,cond_false,Bool.true_and]
  cases hk0:o.kind==0
  · simp only [cond_false,mw,sn,Option.bind_some,lG]
    have hk0':o.kind ≠ 0:=by simpa using hk0
    cases hA:(!iE o.kind 1 4 || (!iE o.box (-1) 9 || (!iE o.res 0 4 || (!iE o.iN 0 1000000 || (!iE o.cd 0 8 || ((o.ib.length:Int) != 2 || !iE o.iP 0 1000000))))))
    · simp only [Bool.or_eq_false_iff,Bool.not_eq_false',bne_eq_false_iff_eq] at hA
      obtain ⟨a1,a2,a3,a4,a5,a6,a7⟩:=hA
      have a1':iE o.kind 0 4=true:=by rw [jb] at a1 ⊢;omega
      have hl2:o.ib.length=2:=by omega
      simp only [cond_false,a1',a2,a3,a4,a5,Bool.true_and]
      rw [jX o.ib (fun _ y=>iE y (-1) 9) (.inl (2:Int)) (.inr false) (Nat.lt_of_lt_of_le h1 hN),ky,Option.bind_some,wt]
      · unfold mB
        cases hL:o.ib.all fun y=>iE y (-1) 9
        · rfl
        have e6:((o.ib.length:Int)==2)=true:=by simp [a6]
        simp only [if_true,Bool.true_and,e6]
        simp only [oN,Option.bind_some,oc]
        rw [EZ hw a7,Fc o]
        rw [show (bif o.kind != 4 then (o.wait==0&&(o.iO==0&&o.iP==0)) else (o.wait==0 || iE (IntKind.i64.wrap (o.wait - 1)) 0 29999)&&(iE o.iO (-1) 999&&iE o.iP 0 1000000))=wW o from rfl]
        cases wW o
        · simp
        cases ((o.data.length:Int)==(bif o.kind==2 then o.cd else 0))
        · simp
        simp only [Bool.not_true,cond_false,Bool.and_true,Bool.true_and]
        rw [jX o.data (fun _ y=>iE y 0 999) (.inl (o.data.length:Int)) (.inr false) (Nat.lt_of_lt_of_le h2 hN),ky,Option.bind_some,wt,Ee o]
        · cases o.data.all fun y=>iE y 0 999
          · rfl
          simp only [if_true,Bool.true_and]
          cases decide ((o.queue.length:Int)≤(bif o.kind==3 then 2 else 0))
          · simp
          simp only [Bool.not_true,cond_false,Bool.and_true]
          rw [jX o.queue (fun _ y=>uf y) (.inl (o.queue.length:Int)) (.inr false) (Nat.lt_of_lt_of_le h3 hN),ky,Option.bind_some,wt]
          · cases o.queue.all uf <;> rfl
          · intro k y hy hk
            simp only [jt hk,cond_true,iT,hy,Option.bind_some,jo (Nat.lt_trans hk h3)]
            unfold uf
            cases (y.src != (-1)) <;> cases iE y.src 0 29999 <;> cases iE y.n 0 999 <;> rfl
          · simp only [ju,cond_false]
        · intro k y hy hk
          simp only [jt hk,cond_true,iT,hy,Option.bind_some,jo (Nat.lt_trans hk h2)]
          cases iE y 0 999 <;> rfl
        · simp only [ju,cond_false]
      · intro k y hy hk
        have hd:decide ((k:Int)<2)=true:=by simp;omega
        simp only [hd,cond_true,iT,hy,Option.bind_some,mw,jo (Nat.lt_trans hk h1)]
        cases iE y (-1) 9 <;> rfl
      · simp [hl2]
    · simp only [cond_true]
      congr 1
      symm
      rw [Bool.eq_false_iff]
      intro h
      simp only [mB,Bool.and_eq_true,jb,beq_iff_eq] at h
      obtain ⟨b0,b1,b2,b3,b4,⟨_,_,_,b5,_,_⟩,b6⟩:=h
      have q1:iE o.kind 1 4=true:=by rw [jb];omega
      have q2:iE o.box (-1) 9=true:=by rw [jb];omega
      have q3:iE o.res 0 4=true:=by rw [jb];omega
      have q4:iE o.iN 0 1000000=true:=by rw [jb];omega
      have q5:iE o.cd 0 8=true:=by rw [jb];omega
      have q6:((o.ib.length:Int) != 2)=false:=by simp [b5]
      have q7:iE o.iP 0 1000000=true:=by
        cases h4:o.kind != 4
        · rw [h4] at b6
          simp only [cond_false,Bool.and_eq_true] at b6
          exact b6.2.2
        · rw [h4] at b6
          simp only [cond_true,Bool.and_eq_true,beq_iff_eq] at b6
          rw [b6.2.2];decide
      simp [q1,q2,q3,q4,q5,q6,q7] at hA
  · have hk:o.kind=0:=by simpa using hk0
    simp only [cond_true,lp,Option.bind_some]
    congr 1
    rw [Bool.eq_iff_iff]
    obtain ⟨_,_,_,_,_,_,_,_,_,_,_,_,_⟩:=o
    simp only at hk
    subst hk
    simp [blank,iE]
end Go.Kx
/- Plain laws: arenas, heaps, iz, parts: what is right. No program in sight. -/
namespace Go.Kx
open Go
set_option linter.unusedVariables false
set_option linter.unusedSimpArgs false
set_option maxRecDepth 10000
theorem nY {o:bh} (h:jF o=true):o.ib.length≤2∧∀ y,y ∈ o.ib→-1≤y∧y≤9:=by
  unfold jF at h
  cases hk:o.kind==0
  · simp only [hk,cond_false,Bool.and_eq_true] at h
    obtain ⟨_,_,_,_,_,_,hl,_⟩:=h
    unfold mB at hl
    simp only [Bool.and_eq_true,List.all_eq_true,jb,beq_iff_eq] at hl
    exact ⟨by omega,hl.1⟩
  · simp only [hk,cond_true,Bool.and_eq_true,decide_eq_true_eq] at h
    rw [h.2.2];simp [blank]
theorem oo {o:bh} (h:jF o=true) (hk:(o.kind != 0)=true):iE o.box (-1) 9=true∧iE o.res 0 4=true∧iE o.iN 0 1000000=true∧iE o.cd 0 8=true:=by
  unfold jF at h
  have hk:(o.kind==0)=false:=by simpa [bne] using hk
  simp only [hk,cond_false,Bool.and_eq_true] at h
  exact ⟨h.2.2.1,h.2.2.2.1,h.2.2.2.2.1,h.2.2.2.2.2.1⟩
def rN (l:List bh) (i:Int):Bool:=(nth l i).kind==0
def sH (l:List bh) (o:bh):Bool:=o.ib.all fun y=>!(decide (y ≥ 0)&&rN l y)
def qB (l:List bh) (k:Nat) (o:bh):Bool:=(jF o&&!(decide ((k:Int) > 0)&&(o.kind != 0&&(decide (o.box ≥ 0)&&rN l o.box))))&&sH l o
def sg (l:List bh):Bool:=((nth l 0).kind != 1) || (((nth l 0).box != (-1)) || ((nth l 0).iN != 1000000))
def kq (l:List bh):Bool:=!((l.length:Int) != 10)&&(!sg l&&allI (qB l) 0 l)
theorem xW {N:Nat} (hN:iy≤N) {l:List bh} (hl:l.length=10) {o:bh} (ho:o.ib.length≤2) (hr:∀ y,y ∈ o.ib→-1≤y∧y≤9) :
    iter (fun (s75:Int)=>(bif (decide (s75<(o.ib.length:Int))) then ((idx o.ib s75).bind fun y96=>(bif (decide (y96 ≥ 0)) then ((idx l y96).bind fun y108=>some (y108.kind==0)) else (some false):Option Bool).bind fun j105=>bif j105 then (some (.inr (.inr false))) else (some (.inl (IntKind.i64.wrap (s75+1))))) else (some (.inr (.inl s75))):Option (Int⊕(Int⊕Bool)))) N 0=some (if sH l o then .inl (o.ib.length:Int) else .inr false):=by
  have hB:o.ib.length<iy:=Nat.lt_of_le_of_lt ho (by decide)
  rw [jX o.ib (fun _ y=>!(decide (y ≥ 0)&&rN l y)) (.inl (o.ib.length:Int)) (.inr false) (Nat.lt_of_lt_of_le hB hN),ky]
  · rfl
  · intro k y hy hk
    have hm:=hr y (List.mem_of_getElem? hy)
    simp only [jt hk,cond_true,iT,hy,Option.bind_some,jo (Nat.lt_trans hk hB)]
    cases h0:decide (y ≥ 0)
    · rfl
    · have h0:y ≥ 0:=by simpa using h0
      simp only [cond_true,jk (l:=l) (i:=y) h0 (by omega),Option.bind_some,Bool.true_and]
      unfold rN
      cases (nth l y).kind==0 <;> rfl
  · simp only [ju,cond_false]
theorem A5 {l:List bh} (hl:l.length=10) {o:bh} (ho:jF o=true):(bif (decide (o.box ≥ 0)) then ((idx l o.box).bind fun y58=>some (y58.kind==0)) else (some false):Option Bool)=some (decide (o.box ≥ 0)&&rN l o.box)∨(o.kind != 0)=false:=by
  cases hk:o.kind != 0
  · exact .inr rfl
  · left
    obtain ⟨hb,_⟩:=oo ho hk
    rw [jb] at hb
    cases h0:decide (o.box ≥ 0)
    · rfl
    · have h0:o.box ≥ 0:=by simpa using h0
      simp only [cond_true,jk (l:=l) (i:=o.box) h0 (by omega),Option.bind_some,Bool.true_and];rfl
theorem yb {N:Nat} (hN:iy≤N) {l:List bh} (hb:jr iu l<iy):nW N l=some (kq l):=by
  have hlB:=si hb
  unfold nW kq
  cases h10:((l.length:Int) != 10)
  · have hl:l.length=10:=sR (n:=10) h10
    rw [jk (l:=l) (i:=0) (by omega) (by omega)]
    simp only [cond_false,Option.bind_some,lG,Bool.not_false,Bool.true_and]
    rw [show ((nth l 0).kind != 1 || ((nth l 0).box != (-1) || (nth l 0).iN != 1000000))=sg l from rfl]
    cases sg l
    · simp only [cond_false,Bool.not_false,Bool.true_and]
      rw [jX l (qB l) (.inl (l.length:Int)) (.inr false) (Nat.lt_of_lt_of_le hlB hN)]
      · simp only [Option.bind_some];cases allI (qB l) 0 l <;> rfl
      · intro k y hy hk
        have hm:=List.mem_of_getElem? hy
        simp only [jt hk,cond_true,iT,hy,Option.bind_some,ED hN (sj hb hm),jo (Nat.lt_trans hk hlB)]
        unfold qB
        cases ho:jF y
        · rfl
        · obtain ⟨q1,q2⟩:=nY ho
          rw [xW hN hl q1 q2]
          rcases A5 hl ho with q | q
          · rw [q]
            simp only [Bool.not_true,cond_false,Bool.true_and,lp,Option.bind_some]
            cases (decide ((k:Int) > 0)&&(y.kind != 0&&(decide (y.box ≥ 0)&&rN l y.box))) <;> cases sH l y <;> rfl
          · simp only [q,Bool.not_true,cond_false,Bool.true_and,Bool.false_and,Bool.and_false,lp,Option.bind_some]
            cases sH l y <;> rfl
      · simp only [ju,cond_false]
    · rfl
  · rfl
def wA (l:List bh):Prop:=∀ o,o ∈ l→lQ o
theorem oz {N:Nat} (hN:iy≤N) {l:List bh} (hb:jr iu l<iy) (hw:wA l):kK N l=some (kq l):=by
  have hlB:=si hb
  unfold kK kq
  cases h10:((l.length:Int) != 10)
  · have hl:l.length=10:=sR (n:=10) h10
    rw [jk (l:=l) (i:=0) (by omega) (by omega)]
    simp only [cond_false,Option.bind_some,lG,Bool.not_false,Bool.true_and]
    rw [show ((nth l 0).kind != 1 || ((nth l 0).box != (-1) || (nth l 0).iN != 1000000))=sg l from rfl]
    cases sg l
    · simp only [cond_false,Bool.not_false,Bool.true_and]
      rw [jX l (qB l) (.inl (l.length:Int)) (.inr false) (Nat.lt_of_lt_of_le hlB hN)]
      · simp only [Option.bind_some];cases allI (qB l) 0 l <;> rfl
      · intro k y hy hk
        have hm:=List.mem_of_getElem? hy
        simp only [jt hk,cond_true,iT,hy,Option.bind_some,A9 hN (sj hb hm) (hw y hm),jo (Nat.lt_trans hk hlB)]
        unfold qB
        cases ho:jF y
        · rfl
        · obtain ⟨q1,q2⟩:=nY ho
          rw [xW hN hl q1 q2]
          rcases A5 hl ho with q | q
          · rw [q]
            simp only [Bool.not_true,cond_false,Bool.true_and,lp,Option.bind_some]
            cases y.kind != 0 <;> cases decide ((k:Int) > 0) <;> cases (decide (y.box ≥ 0)&&rN l y.box) <;> cases sH l y <;> rfl
          · simp only [q,Bool.not_true,cond_false,Bool.true_and,Bool.false_and,Bool.and_false,lp,Option.bind_some]
            cases sH l y <;> rfl
      · simp only [ju,cond_false]
    · rfl
  · rfl
theorem tE {N:Nat} (hN:iy≤N) {l:List Int} {x:Int} (hb:l.length<iy):ll N l x=some (l.contains x):=by
  unfold ll
  rw [jX l (fun _ y=>!(y==x)) (.inl (l.length:Int)) (.inr true) (Nat.lt_of_lt_of_le hb hN),ky]
  · have:(l.all fun y=>!(y==x))=!l.contains x:=by
      induction l with
      | nil=>rfl
      | cons y l ih =>
        have ih:=ih (Nat.lt_trans (Nat.lt_succ_self _) hb)
        rw [List.all_cons,ih,List.contains_cons,Bool.beq_comm (a:=x)]
        cases (y==x) <;> rfl
    rw [this,Option.bind_some]
    cases l.contains x <;> rfl
  · intro k y hy hk
    simp only [jt hk,cond_true,iT,hy,Option.bind_some,jo (Nat.lt_trans hk hb)]
    cases (y==x) <;> rfl
  · simp only [ju,cond_false]
def oU (g:List Int) (k:Nat) (y:Int):Bool:=iE y 0 9&&!(g.take k).contains y
def lz (g:jH):Bool:=((g.phase==0)&&(g.pos==0)) || ((g.phase==1)&&(iE g.pos 0 9&&((g.gE.length:Int)==0)))
def j7 (h:ic):Bool:=kq h.ag&&(lz h.gc&&(iE h.gc.round 0 1000000&&allI (oU h.gc.gE) 0 h.gc.gE))
theorem AN {α:Type} {l:List α} {k:Nat} (h:l.length<iy):(l.take k).length<iy:=Nat.lt_of_le_of_lt (by simp;omega) h
theorem zv {N:Nat} (hN:iy≤N) {h:ic} (h1:jr iu h.ag<iy) (h2:h.gc.gE.length<iy):oM N h=some (j7 h):=by
  unfold oM j7
  rw [jX h.gc.gE (oU h.gc.gE) (.inl (h.gc.gE.length:Int)) (.inr false) (Nat.lt_of_lt_of_le h2 hN)]
  · simp only [Option.bind_some,v8,vV,yb hN h1,lp]
    cases allI (oU h.gc.gE) 0 h.gc.gE
    · simp
    · simp only [if_true,Sum.elim_inl,Bool.and_true]
      unfold lz
      cases kq h.ag
      · rfl
      cases ((h.gc.phase==0)&&(h.gc.pos==0))
      · cases ((h.gc.phase==1)&&(iE h.gc.pos 0 9&&((h.gc.gE.length:Int)==0))) <;> rfl
      · rfl
  · intro k y hy hk
    simp only [jt hk,cond_true,iT,hy,Option.bind_some,v8,wi (Nat.le_of_lt hk),tZ hN (AN h2),jo (Nat.lt_trans hk h2)]
    unfold oU
    cases iE y 0 9 <;> cases (h.gc.gE.take k).contains y <;> rfl
  · simp only [ju,cond_false]
theorem Ei (n:Nat):decide ((n:Int) > 0)=!((n:Int)==0):=by
  cases n with
  | zero=>rfl
  | succ n=>rw [decide_eq_true (by omega)];simp;omega
theorem sG {N:Nat} (hN:iy≤N) {h:ic} (h1:jr iu h.ag<iy) (h2:h.gc.gE.length<iy) (hw:wA h.ag):lZ N h=some (j7 h):=by
  unfold lZ j7
  rw [jX h.gc.gE (oU h.gc.gE) (.inl (h.gc.gE.length:Int)) (.inr false) (Nat.lt_of_lt_of_le h2 hN)]
  · simp only [Option.bind_some,pU,mw,oz hN h1 hw,lG,Ei]
    cases kq h.ag
    · rfl
    cases iE h.gc.round 0 1000000
    · simp
    unfold lz
    by_cases q0:h.gc.phase=0
    · have e0:(h.gc.phase==0)=true:=by simp [q0]
      have e1:(h.gc.phase==1)=false:=by simp [q0]
      have e2:iE h.gc.phase 0 1=true:=by rw [q0];decide
      rw [e0,e1,e2]
      simp only [bne]
      cases h.gc.pos==0
      · rfl
      · cases allI (oU h.gc.gE) 0 h.gc.gE <;> rfl
    by_cases q1:h.gc.phase=1
    · have e0:(h.gc.phase==0)=false:=by simp [q1]
      have e1:(h.gc.phase==1)=true:=by simp [q1]
      have e2:iE h.gc.phase 0 1=true:=by rw [q1];decide
      rw [e0,e1,e2]
      cases iE h.gc.pos 0 9
      · rfl
      cases ((h.gc.gE.length:Int)==0)
      · rfl
      · cases allI (oU h.gc.gE) 0 h.gc.gE <;> rfl
    · have e0:(h.gc.phase==0)=false:=by simp [q0]
      have e1:(h.gc.phase==1)=false:=by simp [q1]
      have e2:iE h.gc.phase 0 1=false:=by
        rw [Bool.eq_false_iff,Ne,jb];omega
      rw [e0,e1,e2];rfl
  · intro k y hy hk
    simp only [jt hk,cond_true,iT,hy,Option.bind_some,pU,wi (Nat.le_of_lt hk),tE hN (AN h2),jo (Nat.lt_trans hk h2)]
    unfold oU
    cases iE y 0 9 <;> cases (h.gc.gE.take k).contains y <;> rfl
  · simp only [ju,cond_false]
def qR (t:jE):Bool:=(iE t.res 0 4&&(iE t.k5 0 2&&(iE t.lR 0 4&&iE t.lV 0 2)))&&(((t.kind==1)&&iE t.mq 0 1000) || ((t.kind==2)&&iE t.mq 0 100))
theorem Ek (N:Nat) (t:jE):rR N t=some (qR t):=by
  unfold rR qR
  simp only [uP,Dz,oV,Option.bind_some,lG,lp]
  by_cases q:t.kind=1
  · have e1:(t.kind==1)=true:=by simp [q]
    have e2:(t.kind==2)=false:=by simp [q]
    rw [e1,e2]
    cases iE t.res 0 4 <;> cases iE t.lR 0 4 <;> cases iE t.k5 0 2 <;> cases iE t.lV 0 2 <;> cases iE t.mq 0 1000 <;> rfl
  · have e1:(t.kind==1)=false:=by simp [q]
    rw [e1]
    cases iE t.res 0 4 <;> cases iE t.lR 0 4 <;> cases iE t.k5 0 2 <;> cases iE t.lV 0 2 <;> cases (t.kind==2) <;> cases iE t.mq 0 100 <;> rfl
theorem A0 (N:Nat) (t:jE):qd N t=some (qR t):=by
  unfold qd qR
  simp only [sn,mw,Option.bind_some,lG,lp]
  by_cases q:t.kind=1
  · have e1:(t.kind==1)=true:=by simp [q]
    have e2:(t.kind==2)=false:=by simp [q]
    rw [e1,e2]
    cases iE t.res 0 4 <;> cases iE t.k5 0 2 <;> cases iE t.lR 0 4 <;> cases iE t.lV 0 2 <;> cases iE t.mq 0 1000 <;> rfl
  · have e1:(t.kind==1)=false:=by simp [q]
    rw [e1]
    cases iE t.res 0 4 <;> cases iE t.k5 0 2 <;> cases iE t.lR 0 4 <;> cases iE t.lV 0 2 <;> cases (t.kind==2) <;> cases iE t.mq 0 100 <;> rfl
def wJ (p:ia):Bool:=iE p.next 0 9&&(iE p.want 0 10&&(i7 p.hZ&&(iE p.iH 0 1000000&&iE p.lost 0 1000000)))
def jR (p:ia):Bool:=lM p.label&&(rn p.own&&(km p.tree&&(j7 p.heap&&(!decide ((p.iz.length:Int) > 3)&&(p.iz.all qR&&wJ p)))))
theorem DG {N:Nat} (hN:iy≤N) {p:ia} (h:je p<iy):qt N p=some (jR p):=by
  obtain ⟨h1,h2,h3,h4,h5,h6⟩:=m4 h
  unfold qt jR
  rw [jX p.iz (fun _ t=>qR t) (.inl (p.iz.length:Int)) (.inr false) (Nat.lt_of_lt_of_le h6 hN),ky]
  · simp only [Option.bind_some,C5 hN h1,Ef hN h2,wm hN,zv hN h4 h5,v8,oV,vw,vV,lG,lp]
    rw [show (iE p.next 0 9&&(iE p.want 0 10&&(i7 p.hZ&&(iE p.iH 0 1000000&&iE p.lost 0 1000000))))=wJ p from rfl]
    cases p.iz.all qR
    · simp
    · simp only [if_true,Sum.elim_inl,Bool.true_and]
      cases lM p.label <;> cases rn p.own <;> cases km p.tree <;> cases j7 p.heap <;> cases decide ((p.iz.length:Int) > 3) <;> rfl
  · intro k y hy hk
    simp only [jt hk,cond_true,iT,hy,Option.bind_some,Ek,jo (Nat.lt_trans hk h6)]
    cases qR y <;> rfl
  · simp only [ju,cond_false]
def wP (p:ia):Prop:=wA p.heap.ag
theorem sv {N:Nat} (hN:iy≤N) {p:ia} (h:je p<iy) (hw:wP p):lU N p=some (jR p):=by
  obtain ⟨h1,h2,h3,h4,h5,h6⟩:=m4 h
  unfold lU jR
  rw [jX p.iz (fun _ t=>qR t) (.inl (p.iz.length:Int)) (.inr false) (Nat.lt_of_lt_of_le h6 hN),ky]
  · simp only [Option.bind_some,xX hN h1,Bd hN h2,tX hN,sG hN h4 h5 hw,pU,mw,oO,lG,lp]
    unfold wJ
    cases lM p.label
    · rfl
    cases rn p.own
    · rfl
    cases km p.tree
    · rfl
    cases j7 p.heap
    · rfl
    cases decide ((p.iz.length:Int) > 3)
    · simp only [Bool.not_true,Bool.not_false,Bool.false_or,Bool.true_and]
      cases iE p.next 0 9 <;> cases iE p.want 0 10 <;> cases i7 p.hZ <;> cases iE p.iH 0 1000000 <;> cases iE p.lost 0 1000000 <;> cases p.iz.all qR <;> rfl
    · rfl
  · intro k y hy hk
    simp only [jt hk,cond_true,iT,hy,Option.bind_some,A0,jo (Nat.lt_trans hk h6)]
    cases qR y <;> rfl
  · simp only [ju,cond_false]
end Go.Kx
