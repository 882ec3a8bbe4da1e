/- Plain laws: trees of reserves. No program in sight. -/
import Derived.Test.YtljikolgijlbeaaGreatLBoot
namespace Go.Kx
open Go
set_option linter.unusedVariables false
set_option linter.unusedSimpArgs false
set_option maxRecDepth 10000
def nth {α:Type} [Dat α] (l:List α) (i:Int):α:=(l[i.toNat]?).getD Dat.zero
theorem idx_ok {α:Type} [Dat α] {l:List α} {i:Int} (h0:0≤i) (h1:i<(l.length:Int)):idx l i=some (nth l i):=by
  have hz:l[i.toNat]?=some (l[i.toNat]'(by omega)):=List.getElem?_eq_getElem _
  unfold idx nth
  rw [if_pos h0,hz];rfl
theorem idx_in {α:Type} [Dat α] {l:List α} {i a b:Int} (h:inR i a b=true) (ha:0≤a) (hb:b<(l.length:Int)):idx l i=some (nth l i):=by
  rw [inR_iff] at h
  exact idx_ok (by omega) (by omega)
theorem nth_of {α:Type} [Dat α] {l:List α} {k:Nat} {y:α} (h:l[k]?=some y):nth l (k:Int)=y:=by simp [nth,h]
theorem nth_mem {α:Type} [Dat α] {l:List α} {i:Int} (h0:0≤i) (h1:i<(l.length:Int)):nth l i ∈ l:=by
  have hz:l[i.toNat]?=some (l[i.toNat]'(by omega)):=List.getElem?_eq_getElem _
  unfold nth;rw [hz];exact List.getElem_mem _
theorem lenB {α:Type} {l:List α} {n:Nat} (h:((l.length:Int) != (n:Int))=false):l.length=n:=by simp at h;omega
theorem i_isPlace (N:Nat) (a:Int):F_i_isPlace N a=some (inR a 0 4):=by unfold F_i_isPlace;rw [i_in];rfl
def liveAt (t:List DRes) (i:Int):Bool:=inR i 0 4&&(nth t i).live
def up (t:List DRes) (i:Int):Int:=(nth t i).parent
def leads (t:List DRes):Nat→Int→Bool
  | 0,_=>false
  | n+1,i=>(i==0) || (liveAt t i&&leads t n (up t i))
def climb (t:List DRes):Nat→Int→Int
  | 0,a=>a
  | n+1,a=>if a > 0 then climb t n (up t a) else a
theorem i_isLive (N:Nat) {t:List DRes} (h:t.length=5) (i:Int):F_i_isLive N t i=some (liveAt t i):=by
  unfold F_i_isLive liveAt
  rw [i_isPlace,Option.bind_some]
  cases hi:inR i 0 4
  · rfl
  · simp only [cond_true,idx_in hi (by omega) (show (4:Int)<(t.length:Int) by omega),Option.bind_some,Bool.true_and]
theorem lt5 {k:Nat} (h:k<(List.replicate 5 ()).length):k<5∧decide ((k:Int)<5)=true:=by
  have h:k<5:=by simpa using h
  exact ⟨h,by simp;omega⟩
theorem ltN {k n:Nat} {N:Nat} (hN:BIG≤N) (hn:n<16777216):(List.replicate n ()).length<N:=by
  have:16777216≤N:=hN
  simp;omega
theorem i_leadsUp {N:Nat} (hN:BIG≤N) {t:List DRes} (h:t.length=5) (i:Int):F_i_leadsUp N t i=some (leads t 5 i):=by
  unfold F_i_leadsUp
  rw [show ((i,0):Int×Int)=(fun (k:Nat) (a:Int)=>(a,(k:Int))) 0 i from rfl,
    iter_list (List.replicate 5 ()) (fun (k:Nat) (a:Int)=>(a,(k:Int))) (fun _ a _=>if a==0 then .inr (.inr true) else if liveAt t a then .inl (up t a) else .inr (.inr false)) (fun a=>.inl (a,5)) (fun _ _=>True) ?_ ?_ (ltN (k:=0) hN (by decide)) trivial]
  · have key:∀ (n k:Nat) (a:Int),Sum.elim (fun _=>some false) (fun r20=>some r20) (runL (ρ:=(Int×Int)⊕Bool) (fun (_:Nat) a (_:Unit)=>if a==0 then .inr (.inr true) else if liveAt t a then .inl (up t a) else .inr (.inr false)) (fun a=>.inl (a,5)) k a (List.replicate n ()))=some (leads t n a):=by
      intro n
      induction n with
      | zero=>intro k a;rfl
      | succ n ih =>
        intro k a
        rw [List.replicate_succ]
        unfold runL leads
        cases h0:(a==0)
        · cases h1:liveAt t a
          · rfl
          · simpa using ih (k+1) (up t a)
        · rfl
    exact key 5 0 i
  · intro k a y hy hk _
    obtain ⟨h5,hd⟩:=lt5 hk
    refine ⟨?_,fun _ _=>trivial⟩
    simp only [hd,cond_true,i_isLive N h,Option.bind_some]
    cases h0:(a==0)
    · cases h1:liveAt t a
      · rfl
      · have hin:inR a 0 4=true:=by unfold liveAt at h1;simp at h1;exact h1.1
        simp only [idx_in hin (by omega) (show (4:Int)<(t.length:Int) by omega),wrap1 (show k<BIG from Nat.lt_trans h5 (by decide)),Option.bind_some]
        rfl
    · rfl
  · intro a _
    rfl
def zRes:DRes:=DRes.mk false 0 (DAmt.mk 0 0 0)
def treeP (t:List DRes) (k:Nat) (r:DRes):Bool:=if r.live then amtOk r.bal&&leads t 5 (k:Int) else decide (r=zRes)
def sumLive (s:DAmt) (t:List DRes):DAmt:=t.foldl (fun s r=>if r.live then amtSum s r.bal else s) s
def treeOk (t:List DRes):Bool:=!((t.length:Int) != 5)&&((nth t 0).live&&(!((nth t 0).parent != (-1))&&(allI (treeP t) 0 t&&amtOk (sumLive ⟨0,0,0⟩ t))))
theorem i_TreeOk {N:Nat} (hN:BIG≤N) {t:List DRes}:F_i_TreeOk N t=some (treeOk t):=by
  unfold F_i_TreeOk treeOk
  cases h5:((t.length:Int) != 5)
  · have hl:t.length=5:=lenB (n:=5) h5
    have hB:t.length<BIG:=by rw [hl];decide
    rw [idx_ok (l:=t) (i:=0) (by omega) (by omega)]
    simp only [cond_false,Option.bind_some,bOr,Bool.not_false,Bool.true_and]
    cases h1:(nth t 0).live
    · rfl
    cases h2:((nth t 0).parent != (-1))
    · simp only [Bool.not_true,Bool.or_self,cond_false,Bool.true_and,Bool.not_false]
      rw [show ((0:Int),(0:Int),(0:Int),(0:Int))=(fun (k:Nat) (s:DAmt)=>((k:Int),s.pages,s.rent,s.cpu)) 0 ⟨0,0,0⟩ from rfl,
        iter_list t (fun (k:Nat) (s:DAmt)=>((k:Int),s.pages,s.rent,s.cpu)) (fun k s r=>if treeP t k r then .inl (if r.live then amtSum s r.bal else s) else .inr (.inr false)) (fun s=>.inl ((t.length:Int),s.pages,s.rent,s.cpu)) (fun _ _=>True) ?_ ?_ (Nat.lt_of_lt_of_le hB hN) trivial]
      · simp only [Option.bind_some,i_AmtOk]
        have key:∀ (l:List DRes) (k:Nat) (s:DAmt),Sum.elim (fun (o48:Int×Int×Int×Int)=>some (amtOk (DAmt.mk o48.2.1 o48.2.2.1 o48.2.2.2))) (fun r53=>some r53) (runL (fun k s r=>if treeP t k r then .inl (if r.live then amtSum s r.bal else s) else .inr (.inr false)) (fun s=>.inl ((t.length:Int),s.pages,s.rent,s.cpu)) k s l)=some (allI (treeP t) k l&&amtOk (sumLive s l)):=by
          intro l
          induction l with
          | nil=>intro k s;rfl
          | cons r l ih =>
            intro k s
            unfold runL allI
            cases hp:treeP t k r
            · rfl
            · simpa [sumLive] using ih (k+1) (if r.live then amtSum s r.bal else s)
        exact key t 0 _
      · intro k s r hy hk _
        refine ⟨?_,fun _ _=>trivial⟩
        simp only [lt_dec hk,cond_true,idx_nat,hy,Option.bind_some,i_AmtOk,i_leadsUp hN hl,i_sumOf,bOr,wrap1 (Nat.lt_trans hk hB)]
        unfold treeP
        cases hlv:r.live
        · show (bif !decide (r=zRes) then _ else _)=_
          cases decide (r=zRes) <;> rfl
        · cases amtOk r.bal <;> cases leads t 5 (k:Int) <;> rfl
      · intro s _
        simp only [ge_dec,cond_false]
    · rfl
  · rfl
def p1 (t:List DRes) (k:Nat) (r:DRes):Bool:=!((!r.live&&!decide (r=zRes)) || !amtOk r.bal)&&!(decide ((k:Int) > 0)&&(r.live&&(!inR r.parent 0 4 || (r.parent==(k:Int) || !(nth t r.parent).live))))
def p2 (t:List DRes) (k:Nat) (r:DRes):Bool:=!(r.live&&(climb t 5 (k:Int) != 0))
end Go.Kx
