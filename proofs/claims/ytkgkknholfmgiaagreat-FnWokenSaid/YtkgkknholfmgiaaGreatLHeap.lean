/- Plain laws: arenas, heaps, taps, parts: what is right. No program in sight. -/
import Derived.Test.YtkgkknholfmgiaaGreatLObj
import Derived.Test.YtkgkknholfmgiaaGreatLBoot
namespace Go.Kx
open Go
set_option linter.unusedVariables false
set_option linter.unusedSimpArgs false
set_option maxRecDepth 10000
theorem objOk_links {o:DObj} (h:objOk o=true):o.links.length≤2∧∀ y,y ∈ o.links→-1≤y∧y≤9:=by
  unfold objOk at h
  cases hk:o.kind==0
  · simp only [hk,cond_false,Bool.and_eq_true] at h
    obtain ⟨_,_,_,_,_,_,hl,_⟩:=h
    unfold listsOk at hl
    simp only [Bool.and_eq_true,List.all_eq_true,inR_iff,beq_iff_eq] at hl
    exact ⟨by omega,hl.1⟩
  · simp only [hk,cond_true,Bool.and_eq_true,decide_eq_true_eq] at h
    rw [h.2.2];simp [blank]
theorem objOk_box {o:DObj} (h:objOk o=true) (hk:(o.kind != 0)=true):inR o.box (-1) 9=true∧inR o.res 0 4=true∧inR o.til 0 1000000=true∧inR o.pages 0 8=true:=by
  unfold objOk at h
  have hk:(o.kind==0)=false:=by simpa [bne] using hk
  simp only [hk,cond_false,Bool.and_eq_true] at h
  exact ⟨h.2.2.1,h.2.2.2.1,h.2.2.2.2.1,h.2.2.2.2.2.1⟩
def freeAt (l:List DObj) (i:Int):Bool:=(nth l i).kind==0
def linksP (l:List DObj) (o:DObj):Bool:=o.links.all fun y=>!(decide (y ≥ 0)&&freeAt l y)
def arenaP (l:List DObj) (k:Nat) (o:DObj):Bool:=(objOk o&&!(decide ((k:Int) > 0)&&(o.kind != 0&&(decide (o.box ≥ 0)&&freeAt l o.box))))&&linksP l o
def headBad (l:List DObj):Bool:=((nth l 0).kind != 1) || (((nth l 0).box != (-1)) || ((nth l 0).til != 1000000))
def arenaOk (l:List DObj):Bool:=!((l.length:Int) != 10)&&(!headBad l&&allI (arenaP l) 0 l)
theorem linksLoop {N:Nat} (hN:BIG≤N) {l:List DObj} (hl:l.length=10) {o:DObj} (ho:o.links.length≤2) (hr:∀ y,y ∈ o.links→-1≤y∧y≤9) :
    iter (fun (s75:Int)=>(bif (decide (s75<(o.links.length:Int))) then ((idx o.links s75).bind fun y96=>(bif (decide (y96 ≥ 0)) then ((idx l y96).bind fun y108=>some (y108.kind==0)) else (some false):Option Bool).bind fun j105=>bif j105 then (some (.inr (.inr false))) else (some (.inl (IntKind.i64.wrap (s75+1))))) else (some (.inr (.inl s75))):Option (Int⊕(Int⊕Bool)))) N 0=some (if linksP l o then .inl (o.links.length:Int) else .inr false):=by
  have hB:o.links.length<BIG:=Nat.lt_of_le_of_lt ho (by decide)
  rw [iter_all o.links (fun _ y=>!(decide (y ≥ 0)&&freeAt l y)) (.inl (o.links.length:Int)) (.inr false) (Nat.lt_of_lt_of_le hB hN),allI_const]
  · rfl
  · intro k y hy hk
    have hm:=hr y (List.mem_of_getElem? hy)
    simp only [lt_dec hk,cond_true,idx_nat,hy,Option.bind_some,wrap1 (Nat.lt_trans hk hB)]
    cases h0:decide (y ≥ 0)
    · rfl
    · have h0:y ≥ 0:=by simpa using h0
      simp only [cond_true,idx_ok (l:=l) (i:=y) h0 (by omega),Option.bind_some,Bool.true_and]
      unfold freeAt
      cases (nth l y).kind==0 <;> rfl
  · simp only [ge_dec,cond_false]
theorem boxCond {l:List DObj} (hl:l.length=10) {o:DObj} (ho:objOk o=true):(bif (decide (o.box ≥ 0)) then ((idx l o.box).bind fun y58=>some (y58.kind==0)) else (some false):Option Bool)=some (decide (o.box ≥ 0)&&freeAt l o.box)∨(o.kind != 0)=false:=by
  cases hk:o.kind != 0
  · exact .inr rfl
  · left
    obtain ⟨hb,_⟩:=objOk_box ho hk
    rw [inR_iff] at hb
    cases h0:decide (o.box ≥ 0)
    · rfl
    · have h0:o.box ≥ 0:=by simpa using h0
      simp only [cond_true,idx_ok (l:=l) (i:=o.box) h0 (by omega),Option.bind_some,Bool.true_and];rfl
theorem i_ArenaOk {N:Nat} (hN:BIG≤N) {l:List DObj} (hb:szL sz_DObj l<BIG):F_i_ArenaOk N l=some (arenaOk l):=by
  have hlB:=szL_len hb
  unfold F_i_ArenaOk arenaOk
  cases h10:((l.length:Int) != 10)
  · have hl:l.length=10:=lenB (n:=10) h10
    rw [idx_ok (l:=l) (i:=0) (by omega) (by omega)]
    simp only [cond_false,Option.bind_some,bOr,Bool.not_false,Bool.true_and]
    rw [show ((nth l 0).kind != 1 || ((nth l 0).box != (-1) || (nth l 0).til != 1000000))=headBad l from rfl]
    cases headBad l
    · simp only [cond_false,Bool.not_false,Bool.true_and]
      rw [iter_all l (arenaP l) (.inl (l.length:Int)) (.inr false) (Nat.lt_of_lt_of_le hlB hN)]
      · simp only [Option.bind_some];cases allI (arenaP l) 0 l <;> rfl
      · intro k y hy hk
        have hm:=List.mem_of_getElem? hy
        simp only [lt_dec hk,cond_true,idx_nat,hy,Option.bind_some,i_ObjOk hN (szL_mem hb hm),wrap1 (Nat.lt_trans hk hlB)]
        unfold arenaP
        cases ho:objOk y
        · rfl
        · obtain ⟨q1,q2⟩:=objOk_links ho
          rw [linksLoop hN hl q1 q2]
          rcases boxCond hl ho with q | q
          · rw [q]
            simp only [Bool.not_true,cond_false,Bool.true_and,bAnd,Option.bind_some]
            cases (decide ((k:Int) > 0)&&(y.kind != 0&&(decide (y.box ≥ 0)&&freeAt l y.box))) <;> cases linksP l y <;> rfl
          · simp only [q,Bool.not_true,cond_false,Bool.true_and,Bool.false_and,Bool.and_false,bAnd,Option.bind_some]
            cases linksP l y <;> rfl
      · simp only [ge_dec,cond_false]
    · rfl
  · rfl
def wA (l:List DObj):Prop:=∀ o,o ∈ l→wOk o
theorem s_ArenaOk {N:Nat} (hN:BIG≤N) {l:List DObj} (hb:szL sz_DObj l<BIG) (hw:wA l):F_s_ArenaOk N l=some (arenaOk l):=by
  have hlB:=szL_len hb
  unfold F_s_ArenaOk arenaOk
  cases h10:((l.length:Int) != 10)
  · have hl:l.length=10:=lenB (n:=10) h10
    rw [idx_ok (l:=l) (i:=0) (by omega) (by omega)]
    simp only [cond_false,Option.bind_some,bOr,Bool.not_false,Bool.true_and]
    rw [show ((nth l 0).kind != 1 || ((nth l 0).box != (-1) || (nth l 0).til != 1000000))=headBad l from rfl]
    cases headBad l
    · simp only [cond_false,Bool.not_false,Bool.true_and]
      rw [iter_all l (arenaP l) (.inl (l.length:Int)) (.inr false) (Nat.lt_of_lt_of_le hlB hN)]
      · simp only [Option.bind_some];cases allI (arenaP l) 0 l <;> rfl
      · intro k y hy hk
        have hm:=List.mem_of_getElem? hy
        simp only [lt_dec hk,cond_true,idx_nat,hy,Option.bind_some,s_ObjOk hN (szL_mem hb hm) (hw y hm),wrap1 (Nat.lt_trans hk hlB)]
        unfold arenaP
        cases ho:objOk y
        · rfl
        · obtain ⟨q1,q2⟩:=objOk_links ho
          rw [linksLoop hN hl q1 q2]
          rcases boxCond hl ho with q | q
          · rw [q]
            simp only [Bool.not_true,cond_false,Bool.true_and,bAnd,Option.bind_some]
            cases y.kind != 0 <;> cases decide ((k:Int) > 0) <;> cases (decide (y.box ≥ 0)&&freeAt l y.box) <;> cases linksP l y <;> rfl
          · simp only [q,Bool.not_true,cond_false,Bool.true_and,Bool.false_and,Bool.and_false,bAnd,Option.bind_some]
            cases linksP l y <;> rfl
      · simp only [ge_dec,cond_false]
    · rfl
  · rfl
theorem s_l4Has {N:Nat} (hN:BIG≤N) {l:List Int} {x:Int} (hb:l.length<BIG):F_s_l4Has N l x=some (l.contains x):=by
  unfold F_s_l4Has
  rw [iter_all l (fun _ y=>!(y==x)) (.inl (l.length:Int)) (.inr true) (Nat.lt_of_lt_of_le hb hN),allI_const]
  · have:(l.all fun y=>!(y==x))=!l.contains x:=by
      induction l with
      | nil=>rfl
      | cons y l ih =>
        have ih:=ih (Nat.lt_trans (Nat.lt_succ_self _) hb)
        rw [List.all_cons,ih,List.contains_cons,Bool.beq_comm (a:=x)]
        cases (y==x) <;> rfl
    rw [this,Option.bind_some]
    cases l.contains x <;> rfl
  · intro k y hy hk
    simp only [lt_dec hk,cond_true,idx_nat,hy,Option.bind_some,wrap1 (Nat.lt_trans hk hb)]
    cases (y==x) <;> rfl
  · simp only [ge_dec,cond_false]
def greyP (g:List Int) (k:Nat) (y:Int):Bool:=inR y 0 9&&!(g.take k).contains y
def phaseOk (g:DGc):Bool:=((g.phase==0)&&(g.pos==0)) || ((g.phase==1)&&(inR g.pos 0 9&&((g.grey.length:Int)==0)))
def heapOk (h:DHeap):Bool:=arenaOk h.arena&&(phaseOk h.gc&&(inR h.gc.round 0 1000000&&allI (greyP h.gc.grey) 0 h.gc.grey))
theorem take_lt {α:Type} {l:List α} {k:Nat} (h:l.length<BIG):(l.take k).length<BIG:=Nat.lt_of_le_of_lt (by simp;omega) h
theorem i_HeapOk {N:Nat} (hN:BIG≤N) {h:DHeap} (h1:szL sz_DObj h.arena<BIG) (h2:h.gc.grey.length<BIG):F_i_HeapOk N h=some (heapOk h):=by
  unfold F_i_HeapOk heapOk
  rw [iter_all h.gc.grey (greyP h.gc.grey) (.inl (h.gc.grey.length:Int)) (.inr false) (Nat.lt_of_lt_of_le h2 hN)]
  · simp only [Option.bind_some,i_isSlot,i_isTime,i_ArenaOk hN h1,bAnd]
    cases allI (greyP h.gc.grey) 0 h.gc.grey
    · simp
    · simp only [if_true,Sum.elim_inl,Bool.and_true]
      unfold phaseOk
      cases arenaOk h.arena
      · rfl
      cases ((h.gc.phase==0)&&(h.gc.pos==0))
      · cases ((h.gc.phase==1)&&(inR h.gc.pos 0 9&&((h.gc.grey.length:Int)==0))) <;> rfl
      · rfl
  · intro k y hy hk
    simp only [lt_dec hk,cond_true,idx_nat,hy,Option.bind_some,i_isSlot,sub_take (Nat.le_of_lt hk),z_Contains hN (take_lt h2),wrap1 (Nat.lt_trans hk h2)]
    unfold greyP
    cases inR y 0 9 <;> cases (h.gc.grey.take k).contains y <;> rfl
  · simp only [ge_dec,cond_false]
theorem pos_len (n:Nat):decide ((n:Int) > 0)=!((n:Int)==0):=by
  cases n with
  | zero=>rfl
  | succ n=>rw [decide_eq_true (by omega)];simp;omega
theorem s_HeapOk {N:Nat} (hN:BIG≤N) {h:DHeap} (h1:szL sz_DObj h.arena<BIG) (h2:h.gc.grey.length<BIG) (hw:wA h.arena):F_s_HeapOk N h=some (heapOk h):=by
  unfold F_s_HeapOk heapOk
  rw [iter_all h.gc.grey (greyP h.gc.grey) (.inl (h.gc.grey.length:Int)) (.inr false) (Nat.lt_of_lt_of_le h2 hN)]
  · simp only [Option.bind_some,s_l8Slot,s_in,s_ArenaOk hN h1 hw,bOr,pos_len]
    cases arenaOk h.arena
    · rfl
    cases inR h.gc.round 0 1000000
    · simp
    unfold phaseOk
    by_cases q0:h.gc.phase=0
    · have e0:(h.gc.phase==0)=true:=by simp [q0]
      have e1:(h.gc.phase==1)=false:=by simp [q0]
      have e2:inR h.gc.phase 0 1=true:=by rw [q0];decide
      rw [e0,e1,e2]
      simp only [bne]
      cases h.gc.pos==0
      · rfl
      · cases allI (greyP h.gc.grey) 0 h.gc.grey <;> rfl
    by_cases q1:h.gc.phase=1
    · have e0:(h.gc.phase==0)=false:=by simp [q1]
      have e1:(h.gc.phase==1)=true:=by simp [q1]
      have e2:inR h.gc.phase 0 1=true:=by rw [q1];decide
      rw [e0,e1,e2]
      cases inR h.gc.pos 0 9
      · rfl
      cases ((h.gc.grey.length:Int)==0)
      · rfl
      · cases allI (greyP h.gc.grey) 0 h.gc.grey <;> rfl
    · have e0:(h.gc.phase==0)=false:=by simp [q0]
      have e1:(h.gc.phase==1)=false:=by simp [q1]
      have e2:inR h.gc.phase 0 1=false:=by
        rw [Bool.eq_false_iff,Ne,inR_iff];omega
      rw [e0,e1,e2];rfl
  · intro k y hy hk
    simp only [lt_dec hk,cond_true,idx_nat,hy,Option.bind_some,s_l8Slot,sub_take (Nat.le_of_lt hk),s_l4Has hN (take_lt h2),wrap1 (Nat.lt_trans hk h2)]
    unfold greyP
    cases inR y 0 9 <;> cases (h.gc.grey.take k).contains y <;> rfl
  · simp only [ge_dec,cond_false]
def tapOk (t:DTap):Bool:=(inR t.res 0 4&&(inR t.toPart 0 2&&(inR t.toRes 0 4&&inR t.which 0 2)))&&(((t.kind==1)&&inR t.rate 0 1000) || ((t.kind==2)&&inR t.rate 0 100))
theorem i_TapOk (N:Nat) (t:DTap):F_i_TapOk N t=some (tapOk t):=by
  unfold F_i_TapOk tapOk
  simp only [i_isPlace,i_isPart,i_in,Option.bind_some,bOr,bAnd]
  by_cases q:t.kind=1
  · have e1:(t.kind==1)=true:=by simp [q]
    have e2:(t.kind==2)=false:=by simp [q]
    rw [e1,e2]
    cases inR t.res 0 4 <;> cases inR t.toRes 0 4 <;> cases inR t.toPart 0 2 <;> cases inR t.which 0 2 <;> cases inR t.rate 0 1000 <;> rfl
  · have e1:(t.kind==1)=false:=by simp [q]
    rw [e1]
    cases inR t.res 0 4 <;> cases inR t.toRes 0 4 <;> cases inR t.toPart 0 2 <;> cases inR t.which 0 2 <;> cases (t.kind==2) <;> cases inR t.rate 0 100 <;> rfl
theorem s_TapOk (N:Nat) (t:DTap):F_s_TapOk N t=some (tapOk t):=by
  unfold F_s_TapOk tapOk
  simp only [s_l6Res,s_in,Option.bind_some,bOr,bAnd]
  by_cases q:t.kind=1
  · have e1:(t.kind==1)=true:=by simp [q]
    have e2:(t.kind==2)=false:=by simp [q]
    rw [e1,e2]
    cases inR t.res 0 4 <;> cases inR t.toPart 0 2 <;> cases inR t.toRes 0 4 <;> cases inR t.which 0 2 <;> cases inR t.rate 0 1000 <;> rfl
  · have e1:(t.kind==1)=false:=by simp [q]
    rw [e1]
    cases inR t.res 0 4 <;> cases inR t.toPart 0 2 <;> cases inR t.toRes 0 4 <;> cases inR t.which 0 2 <;> cases (t.kind==2) <;> cases inR t.rate 0 100 <;> rfl
def restOk (p:DPart):Bool:=inR p.next 0 9&&(inR p.want 0 10&&(amtOk p.spent&&(inR p.press 0 1000000&&inR p.lost 0 1000000)))
def partOk (p:DPart):Bool:=labelOk p.label&&(ownOk p.own&&(treeOk p.tree&&(heapOk p.heap&&(!decide ((p.taps.length:Int) > 3)&&(p.taps.all tapOk&&restOk p)))))
theorem i_PartOk {N:Nat} (hN:BIG≤N) {p:DPart} (h:sz_DPart p<BIG):F_i_PartOk N p=some (partOk p):=by
  obtain ⟨h1,h2,h3,h4,h5,h6⟩:=szPart h
  unfold F_i_PartOk partOk
  rw [iter_all p.taps (fun _ t=>tapOk t) (.inl (p.taps.length:Int)) (.inr false) (Nat.lt_of_lt_of_le h6 hN),allI_const]
  · simp only [Option.bind_some,i_LabelOk hN h1,i_OwnOk hN h2,i_TreeOk hN,i_HeapOk hN h4 h5,i_isSlot,i_in,i_AmtOk,i_isTime,bOr,bAnd]
    rw [show (inR p.next 0 9&&(inR p.want 0 10&&(amtOk p.spent&&(inR p.press 0 1000000&&inR p.lost 0 1000000))))=restOk p from rfl]
    cases p.taps.all tapOk
    · simp
    · simp only [if_true,Sum.elim_inl,Bool.true_and]
      cases labelOk p.label <;> cases ownOk p.own <;> cases treeOk p.tree <;> cases heapOk p.heap <;> cases decide ((p.taps.length:Int) > 3) <;> rfl
  · intro k y hy hk
    simp only [lt_dec hk,cond_true,idx_nat,hy,Option.bind_some,i_TapOk,wrap1 (Nat.lt_trans hk h6)]
    cases tapOk y <;> rfl
  · simp only [ge_dec,cond_false]
def wP (p:DPart):Prop:=wA p.heap.arena
theorem s_PartOk {N:Nat} (hN:BIG≤N) {p:DPart} (h:sz_DPart p<BIG) (hw:wP p):F_s_PartOk N p=some (partOk p):=by
  obtain ⟨h1,h2,h3,h4,h5,h6⟩:=szPart h
  unfold F_s_PartOk partOk
  rw [iter_all p.taps (fun _ t=>tapOk t) (.inl (p.taps.length:Int)) (.inr false) (Nat.lt_of_lt_of_le h6 hN),allI_const]
  · simp only [Option.bind_some,s_LabelOk hN h1,s_OwnOk hN h2,s_TreeOk hN,s_HeapOk hN h4 h5 hw,s_l8Slot,s_in,s_AmtOk,bOr,bAnd]
    unfold restOk
    cases labelOk p.label
    · rfl
    cases ownOk p.own
    · rfl
    cases treeOk p.tree
    · rfl
    cases heapOk p.heap
    · rfl
    cases decide ((p.taps.length:Int) > 3)
    · simp only [Bool.not_true,Bool.not_false,Bool.false_or,Bool.true_and]
      cases inR p.next 0 9 <;> cases inR p.want 0 10 <;> cases amtOk p.spent <;> cases inR p.press 0 1000000 <;> cases inR p.lost 0 1000000 <;> cases p.taps.all tapOk <;> rfl
    · rfl
  · intro k y hy hk
    simp only [lt_dec hk,cond_true,idx_nat,hy,Option.bind_some,s_TapOk,wrap1 (Nat.lt_trans hk h6)]
    cases tapOk y <;> rfl
  · simp only [ge_dec,cond_false]
end Go.Kx
