/- Plain laws: ranges, amounts, labels, owned categories, what is started. No program in sight. -/
import Derived.Test.YtkgkknholfmgiaaGreatHa
namespace Go.Kx
open Go
set_option linter.unusedVariables false
set_option linter.unusedSimpArgs false
set_option maxRecDepth 10000
theorem bAnd (p q:Bool):(bif p then some q else some false)=some (p&&q):=by cases p <;> rfl
theorem bOr (p q:Bool):(bif p then some true else some q)=some (p || q):=by cases p <;> rfl
def inR (a b c:Int):Bool:=decide (b≤a)&&decide (a≤c)
theorem inR_iff {a b c:Int}:inR a b c=true ↔ b≤a∧a≤c:=by simp [inR]
theorem s_in (N:Nat) (a b c:Int):F_s_l1In N a b c=some (inR a b c):=bAnd _ _
theorem i_in (N:Nat) (a b c:Int):F_i_within N a b c=some (inR a b c):=bAnd _ _
def okA (n:Int):Bool:=inR n 0 1000000
theorem s_5 (N:Nat) (a:Int):F_s_l5In N a=some (okA a):=by unfold F_s_l5In;rw [s_in];rfl
theorem i_isAmount (N:Nat) (a:Int):F_i_isAmount N a=some (okA a):=by unfold F_i_isAmount;rw [i_in];rfl
def amtOk (a:DAmt):Bool:=okA a.pages&&(okA a.rent&&okA a.cpu)
theorem s_AmtOk (N:Nat) (a:DAmt):F_s_AmtOk N a=some (amtOk a):=by unfold F_s_AmtOk;simp only [s_5,Option.bind_some,bAnd];rfl
theorem i_AmtOk (N:Nat) (a:DAmt):F_i_AmtOk N a=some (amtOk a):=by unfold F_i_AmtOk;simp only [i_isAmount,Option.bind_some,bAnd];rfl
def amtSum (a b:DAmt):DAmt:=DAmt.mk (IntKind.i64.wrap (a.pages+b.pages)) (IntKind.i64.wrap (a.rent+b.rent)) (IntKind.i64.wrap (a.cpu+b.cpu))
def amtAdd (a b:DAmt):DAmt×Bool:=if amtOk a&&amtOk b&&amtOk (amtSum a b) then (amtSum a b,true) else (a,false)
theorem s_AmtAdd (N:Nat) (a b:DAmt):F_s_AmtAdd N a b=some (amtAdd a b):=by
  unfold F_s_AmtAdd amtAdd
  simp only [s_AmtOk,Option.bind_some,bOr]
  show (bif (!amtOk a || !amtOk b) then some (a,false) else (bif !amtOk (amtSum a b) then some (a,false) else some (amtSum a b,true)))=_
  cases amtOk a <;> cases amtOk b <;> cases amtOk (amtSum a b) <;> rfl
theorem i_sumOf (N:Nat) (a b:DAmt):F_i_sumOf N a b=some (amtSum a b):=rfl
def labelOk (l:DLabel):Bool:=((l.levels.length:Int)==4)&&l.levels.all fun y=>inR y 0 3
theorem s_LabelOk {N:Nat} (hN:BIG≤N) {l:DLabel} (hb:l.levels.length<BIG):F_s_LabelOk N l=some (labelOk l):=by
  unfold F_s_LabelOk labelOk
  rw [iter_all l.levels (fun _ y=>inR y 0 3) (.inl (l.levels.length:Int)) (.inr false) (Nat.lt_of_lt_of_le hb hN),allI_const]
  · cases h:((l.levels.length:Int)==4)
    · have:((l.levels.length:Int) != 4)=true:=by simp [bne,h]
      simp [this]
    · have:((l.levels.length:Int) != 4)=false:=by simp [bne,h]
      simp only [this,cond_false,Option.bind_some,Bool.true_and]
      cases l.levels.all fun y=>inR y 0 3 <;> rfl
  · intro k y hy hk
    simp only [lt_dec hk,cond_true,idx_nat,hy,Option.bind_some,s_in,wrap1 (Nat.lt_trans hk hb)]
    cases inR y 0 3 <;> rfl
  · simp only [ge_dec,cond_false]
theorem i_LabelOk {N:Nat} (hN:BIG≤N) {l:DLabel} (hb:l.levels.length<BIG):F_i_LabelOk N l=some (labelOk l):=by
  unfold F_i_LabelOk labelOk
  rw [iter_all l.levels (fun _ y=>inR y 0 3) (.inl (l.levels.length:Int)) (.inr false) (Nat.lt_of_lt_of_le hb hN),allI_const]
  · simp only [Option.bind_some]
    cases l.levels.all fun y=>inR y 0 3 <;> simp
  · intro k y hy hk
    simp only [lt_dec hk,cond_true,idx_nat,hy,Option.bind_some,i_in,wrap1 (Nat.lt_trans hk hb)]
    cases inR y 0 3 <;> rfl
  · simp only [ge_dec,cond_false]
def pOwn (l:List Int) (k:Nat) (y:Int):Bool:=inR y 0 3&&match k with
  | 0=>true
  | j+1=>!decide (y≤(l[j]?).getD 0)
def ownOk (l:List Int):Bool:=allI (pOwn l) 0 l
theorem ownStep {l:List Int} {k:Nat} {y:Int} (hy:l[k]?=some y) (hk:k<l.length) (hb:l.length<BIG) {N:Nat} :
    (bif (!(inR y 0 3)) then (some true) else (bif (decide ((k:Int) > 0)) then ((idx l (IntKind.i64.wrap ((k:Int) - 1))).bind fun y18=>some (decide (y≤y18))) else (some false)):Option Bool)=some (!pOwn l k y):=by
  have hB:l.length<16777216:=hb
  unfold pOwn
  cases k with
  | zero =>
    have:decide (((0:Nat):Int) > 0)=false:=by decide
    simp only [this,cond_false]
    cases inR y 0 3 <;> rfl
  | succ j =>
    have:decide (((j+1:Nat):Int) > 0)=true:=by simp
    have e:IntKind.i64.wrap (((j+1:Nat):Int) - 1)=(j:Int):=by rw [wrap_ok (by omega) (by omega)];omega
    have hz:l[j]?=some (l[j]'(by omega)):=List.getElem?_eq_getElem _
    simp only [this,cond_true,e,idx_nat,hz,Option.bind_some,Option.getD_some]
    cases inR y 0 3 <;> simp
theorem s_OwnOk {N:Nat} (hN:BIG≤N) {l:List Int} (hb:l.length<BIG):F_s_OwnOk N l=some (ownOk l):=by
  unfold F_s_OwnOk ownOk
  rw [iter_all l (pOwn l) (.inl (l.length:Int)) (.inr false) (Nat.lt_of_lt_of_le hb hN)]
  · simp only [Option.bind_some]
    cases allI (pOwn l) 0 l <;> rfl
  · intro k y hy hk
    simp only [lt_dec hk,cond_true,idx_nat,hy,Option.bind_some,s_in,wrap1 (Nat.lt_trans hk hb)]
    rw [ownStep hy hk hb (N:=N)]
    cases pOwn l k y <;> rfl
  · simp only [ge_dec,cond_false]
theorem i_OwnOk {N:Nat} (hN:BIG≤N) {l:List Int} (hb:l.length<BIG):F_i_OwnOk N l=some (ownOk l):=by
  unfold F_i_OwnOk ownOk
  rw [iter_all l (pOwn l) (.inl (l.length:Int)) (.inr false) (Nat.lt_of_lt_of_le hb hN)]
  · simp only [Option.bind_some]
    cases allI (pOwn l) 0 l <;> rfl
  · intro k y hy hk
    simp only [lt_dec hk,cond_true,idx_nat,hy,Option.bind_some,i_in,wrap1 (Nat.lt_trans hk hb),ge_iff_le]
    rw [ownStep hy hk hb (N:=N)]
    cases pOwn l k y <;> rfl
  · simp only [ge_dec,cond_false]
theorem z_Index {N:Nat} (hN:BIG≤N) {l:List Int} {x:Int} (hb:l.length<BIG):∃ r,F_z_Index_int N l x=some r∧decide (r ≥ 0)=l.contains x:=by
  unfold F_z_Index_int
  have hB:l.length<16777216:=hb
  rw [show (0:Int)=(fun (k:Nat) (_:Unit)=>(k:Int)) 0 () from rfl,iter_list l (fun k (_:Unit)=>(k:Int)) (fun k _ y=>if x==y then .inr (.inr (k:Int)) else .inl ()) (fun _=>.inl (l.length:Int)) (fun _ _=>True) ?_ ?_ (Nat.lt_of_lt_of_le hb hN) trivial]
  · simp only [Option.bind_some]
    have key:∀ (m:List Int) (k:Nat), ∃ r,Sum.elim (fun _=>some (-1)) (fun r16=>some r16) (runL (ρ:=Int⊕Int) (fun (k:Nat) (_:Unit) y=>if x==y then .inr (.inr (k:Int)) else .inl ()) (fun _=>.inl (l.length:Int)) k () m)=some r∧decide (r ≥ 0)=m.contains x:=by
      intro m
      induction m with
      | nil=>intro k;exact ⟨-1,rfl,rfl⟩
      | cons y m ih =>
        intro k
        cases hxy:(x==y)
        · obtain ⟨r,h1,h2⟩:=ih (k+1)
          have hne:x ≠ y:=by simpa using hxy
          refine ⟨r,by simpa [runL,hxy] using h1,by rw [h2];simp [List.contains_cons,hne]⟩
        · have he:x=y:=by simpa using hxy
          exact ⟨k,by simp [runL,hxy],by simp [List.contains_cons,he]⟩
    exact key l 0
  · intro k _ y hy hk _
    simp only [lt_dec hk,cond_true,idx_nat,hy,Option.bind_some,wrap1 (Nat.lt_trans hk hb)]
    cases (x==y) <;> simp
  · intro _ _
    simp only [ge_dec,cond_false]
theorem z_Contains {N:Nat} (hN:BIG≤N) {l:List Int} {x:Int} (hb:l.length<BIG):F_z_Contains_int N l x=some (l.contains x):=by
  unfold F_z_Contains_int
  obtain ⟨r,h1,h2⟩:=z_Index hN hb (x:=x)
  rw [h1,Option.bind_some,h2]
end Go.Kx
