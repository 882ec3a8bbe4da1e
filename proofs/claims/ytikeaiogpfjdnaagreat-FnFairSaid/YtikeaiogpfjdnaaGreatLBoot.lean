/- Plain laws: ranges, amounts, labels, owned categories, what is started. No program in sight. -/
import Derived.Test.YtikeaiogpfjdnaaGreatHa
namespace Go.Kx
open Go
set_option linter.unusedVariables false
set_option linter.unusedSimpArgs false
set_option maxRecDepth 10000
theorem bAnd (p q:Bool):(bif p then some q else some false)=some (p&&q):=by cases p <;> rfl
theorem bOr (p q:Bool):(bif p then some true else some q)=some (p || q):=by cases p <;> rfl
def inR (a b c:Int):Bool:=decide (b≤a)&&decide (a≤c)
theorem inR_iff {a b c:Int}:inR a b c=true ↔ b≤a∧a≤c:=by simp [inR]
theorem s_in (N:Nat) (a b c:Int):F_s_l1In N a b c=some (inR a b c):=bAnd _ _
theorem i_in (N:Nat) (a b c:Int):F_i_within N a b c=some (inR a b c):=bAnd _ _
def okA (n:Int):Bool:=inR n 0 1000000
theorem s_5 (N:Nat) (a:Int):F_s_l5In N a=some (okA a):=by unfold F_s_l5In;rw [s_in];rfl
theorem i_isAmount (N:Nat) (a:Int):F_i_isAmount N a=some (okA a):=by unfold F_i_isAmount;rw [i_in];rfl
def amtOk (a:DAmt):Bool:=okA a.pages&&(okA a.rent&&okA a.cpu)
theorem s_AmtOk (N:Nat) (a:DAmt):F_s_AmtOk N a=some (amtOk a):=by unfold F_s_AmtOk;simp only [s_5,Option.bind_some,bAnd];rfl
theorem i_AmtOk (N:Nat) (a:DAmt):F_i_AmtOk N a=some (amtOk a):=by unfold F_i_AmtOk;simp only [i_isAmount,Option.bind_some,bAnd];rfl
def amtSum (a b:DAmt):DAmt:=DAmt.mk (IntKind.i64.wrap (a.pages+b.pages)) (IntKind.i64.wrap (a.rent+b.rent)) (IntKind.i64.wrap (a.cpu+b.cpu))
def amtAdd (a b:DAmt):DAmt×Bool:=if amtOk a&&amtOk b&&amtOk (amtSum a b) then (amtSum a b,true) else (a,false)
theorem s_AmtAdd (N:Nat) (a b:DAmt):F_s_AmtAdd N a b=some (amtAdd a b):=by
  unfold F_s_AmtAdd amtAdd
  simp only [s_AmtOk,Option.bind_some,bOr]
  show (bif (!amtOk a || !amtOk b) then some (a,false) else (bif !amtOk (amtSum a b) then some (a,false) else some (amtSum a b,true)))=_
  cases amtOk a <;> cases amtOk b <;> cases amtOk (amtSum a b) <;> rfl
theorem i_sumOf (N:Nat) (a b:DAmt):F_i_sumOf N a b=some (amtSum a b):=rfl
def labelOk (l:DLabel):Bool:=((l.levels.length:Int)==4)&&l.levels.all fun y=>inR y 0 3
theorem s_LabelOk {N:Nat} (hN:BIG≤N) {l:DLabel} (hb:l.levels.length<BIG):F_s_LabelOk N l=some (labelOk l):=by
  unfold F_s_LabelOk labelOk
  rw [iter_all l.levels (fun _ y=>inR y 0 3) (.inl (l.levels.length:Int)) (.inr false) (Nat.lt_of_lt_of_le hb hN),allI_const]
  · cases h:((l.levels.length:Int)==4)
    · have:((l.levels.length:Int) != 4)=true:=by simp [bne,h]
      simp [this]
    · have:((l.levels.length:Int) != 4)=false:=by simp [bne,h]
      simp only [this,cond_false,Option.bind_some,Bool.true_and]
      cases l.levels.all fun y=>inR y 0 3 <;> rfl
  · intro k y hy hk
    simp only [lt_dec hk,cond_true,idx_nat,hy,Option.bind_some,s_in,wrap1 (Nat.lt_trans hk hb)]
    cases inR y 0 3 <;> rfl
  · simp only [ge_dec,cond_false]
theorem i_LabelOk {N:Nat} (hN:BIG≤N) {l:DLabel} (hb:l.levels.length<BIG):F_i_LabelOk N l=some (labelOk l):=by
  unfold F_i_LabelOk labelOk
  rw [iter_all l.levels (fun _ y=>inR y 0 3) (.inl (l.levels.length:Int)) (.inr false) (Nat.lt_of_lt_of_le hb hN),allI_const]
  · simp only [Option.bind_some]
    cases l.levels.all fun y=>inR y 0 3 <;> simp
  · intro k y hy hk
    simp only [lt_dec hk,cond_true,idx_nat,hy,Option.bind_some,i_in,wrap1 (Nat.lt_trans hk hb)]
    cases inR y 0 3 <;> rfl
  · simp only [ge_dec,cond_false]
def pOwn (l:List Int) (k:Nat) (y:Int):Bool:=inR y 0 3&&match k with
  | 0=>true
  | j+1=>!decide (y≤(l[j]?).getD 0)
def ownOk (l:List Int):Bool:=allI (pOwn l) 0 l
theorem ownStep {l:List Int} {k:Nat} {y:Int} (hy:l[k]?=some y) (hk:k<l.length) (hb:l.length<BIG) {N:Nat} :
    (bif (!(inR y 0 3)) then (some true) else (bif (decide ((k:Int) > 0)) then ((idx l (IntKind.i64.wrap ((k:Int) - 1))).bind fun y18=>some (decide (y≤y18))) else (some false)):Option Bool)=some (!pOwn l k y):=by
  have hB:l.length<16777216:=hb
  unfold pOwn
  cases k with
  | zero =>
    have:decide (((0:Nat):Int) > 0)=false:=by decide
    simp only [this,cond_false]
    cases inR y 0 3 <;> rfl
  | succ j =>
    have:decide (((j+1:Nat):Int) > 0)=true:=by simp
    have e:IntKind.i64.wrap (((j+1:Nat):Int) - 1)=(j:Int):=by rw [wrap_ok (by omega) (by omega)];omega
    have hz:l[j]?=some (l[j]'(by omega)):=List.getElem?_eq_getElem _
    simp only [this,cond_true,e,idx_nat,hz,Option.bind_some,Option.getD_some]
    cases inR y 0 3 <;> simp
theorem s_OwnOk {N:Nat} (hN:BIG≤N) {l:List Int} (hb:l.length<BIG):F_s_OwnOk N l=some (ownOk l):=by
  unfold F_s_OwnOk ownOk
  rw [iter_all l (pOwn l) (.inl (l.length:Int)) (.inr false) (Nat.lt_of_lt_of_le hb hN)]
  · simp only [Option.bind_some]
    cases allI (pOwn l) 0 l <;> rfl
  · intro k y hy hk
    simp only [lt_dec hk,cond_true,idx_nat,hy,Option.bind_some,s_in,wrap1 (Nat.lt_trans hk hb)]
    rw [ownStep hy hk hb (N:=N)]
    cases pOwn l k y <;> rfl
  · simp only [ge_dec,cond_false]
theorem i_OwnOk {N:Nat} (hN:BIG≤N) {l:List Int} (hb:l.length<BIG):F_i_OwnOk N l=some (ownOk l):=by
  unfold F_i_OwnOk ownOk
  rw [iter_all l (pOwn l) (.inl (l.length:Int)) (.inr false) (Nat.lt_of_lt_of_le hb hN)]
  · simp only [Option.bind_some]
    cases allI (pOwn l) 0 l <;> rfl
  · intro k y hy hk
    simp only [lt_dec hk,cond_true,idx_nat,hy,Option.bind_some,i_in,wrap1 (Nat.lt_trans hk hb),ge_iff_le]
    rw [ownStep hy hk hb (N:=N)]
    cases pOwn l k y <;> rfl
  · simp only [ge_dec,cond_false]
theorem z_Index {N:Nat} (hN:BIG≤N) {l:List Int} {x:Int} (hb:l.length<BIG):∃ r,F_z_Index_int N l x=some r∧decide (r ≥ 0)=l.contains x:=by
  unfold F_z_Index_int
  have hB:l.length<16777216:=hb
  rw [show (0:Int)=(fun (k:Nat) (_:Unit)=>(k:Int)) 0 () from rfl,iter_list l (fun k (_:Unit)=>(k:Int)) (fun k _ y=>if x==y then .inr (.inr (k:Int)) else .inl ()) (fun _=>.inl (l.length:Int)) (fun _ _=>True) ?_ ?_ (Nat.lt_of_lt_of_le hb hN) trivial]
  · simp only [Option.bind_some]
    have key:∀ (m:List Int) (k:Nat), ∃ r,Sum.elim (fun _=>some (-1)) (fun r16=>some r16) (runL (ρ:=Int⊕Int) (fun (k:Nat) (_:Unit) y=>if x==y then .inr (.inr (k:Int)) else .inl ()) (fun _=>.inl (l.length:Int)) k () m)=some r∧decide (r ≥ 0)=m.contains x:=by
      intro m
      induction m with
      | nil=>intro k;exact ⟨-1,rfl,rfl⟩
      | cons y m ih =>
        intro k
        cases hxy:(x==y)
        · obtain ⟨r,h1,h2⟩:=ih (k+1)
          have hne:x ≠ y:=by simpa using hxy
          refine ⟨r,by simpa [runL,hxy] using h1,by rw [h2];simp [List.contains_cons,hne]⟩
        · have he:x=y:=by simpa using hxy
          exact ⟨k,by simp [runL,hxy],by simp [List.contains_cons,he]⟩
    exact key l 0
  · intro k _ y hy hk _
    simp only [lt_dec hk,cond_true,idx_nat,hy,Option.bind_some,wrap1 (Nat.lt_trans hk hb)]
    cases (x==y) <;> simp
  · intro _ _
    simp only [ge_dec,cond_false]
theorem z_Contains {N:Nat} (hN:BIG≤N) {l:List Int} {x:Int} (hb:l.length<BIG):F_z_Contains_int N l x=some (l.contains x):=by
  unfold F_z_Contains_int
  obtain ⟨r,h1,h2⟩:=z_Index hN hb (x:=x)
  rw [h1,Option.bind_some,h2]
end Go.Kx
/- Plain laws of what is told alike: labels, things, parts, worlds. No program in sight. -/
namespace Go.Kx
open Go
set_option linter.unusedVariables false
set_option linter.unusedSimpArgs false
set_option maxRecDepth 10000
theorem z_Equal_int {N:Nat} (hN:BIG≤N) {a b:List Int} (ha:a.length<BIG):F_z_Equal_int N a b=some (decide (a=b)):=eqLoopB a b (· != ·) (by intro y z;by_cases h:y=z <;> simp [h]) ha hN
theorem z_Equal_Msg {N:Nat} (hN:BIG≤N) {a b:List DMsg} (ha:a.length<BIG):F_z_Equal_Msg N a b=some (decide (a=b)):=eqLoopB a b (fun y z=>!decide (y=z)) (fun _ _=>rfl) ha hN
theorem szObj {o:DObj} (h:sz_DObj o<BIG):o.links.length<BIG∧o.data.length<BIG∧o.queue.length<BIG:=by unfold sz_DObj at h;omega
theorem i_sameObj {N:Nat} (hN:BIG≤N) {a b:DObj} (ha:sz_DObj a<BIG):F_i_sameObj N a b=some (decide (a=b)):=by
  obtain ⟨h1,h2,h3⟩:=szObj ha
  unfold F_i_sameObj
  simp only [z_Equal_int hN h1,z_Equal_int hN h2,z_Equal_Msg hN h3,Option.bind_some,bAnd]
  congr 1
  rw [Bool.eq_iff_iff]
  cases a;cases b
  simp [DObj.mk.injEq]
theorem szPart {p:DPart} (h:sz_DPart p<BIG):p.label.levels.length<BIG∧p.own.length<BIG∧p.tree.length<BIG∧szL sz_DObj p.heap.arena<BIG∧p.heap.gc.grey.length<BIG∧p.taps.length<BIG:=by
  unfold sz_DPart sz_DHeap sz_DGc sz_DLabel at h;omega
end Go.Kx
/- Plain laws: copies are what they copy. No program in sight. -/
namespace Go.Kx
open Go
set_option linter.unusedVariables false
set_option linter.unusedSimpArgs false
set_option maxRecDepth 10000
theorem appN {α:Type} {l:List α} (h:l.length<BIG):app ([]:List α) l=some l:=by
  unfold app;rw [if_pos (by simpa using h)];rfl
theorem i_copyInts {N:Nat} {l:List Int} (h:l.length<BIG):F_i_copyInts N l=some l:=by unfold F_i_copyInts;rw [appN h];rfl
theorem i_copyLabel {N:Nat} {l:DLabel} (h:l.levels.length<BIG):F_i_copyLabel N l=some l:=by unfold F_i_copyLabel;rw [i_copyInts h];rfl
theorem i_copyTree {N:Nat} {l:List DRes} (h:l.length<BIG):F_i_copyTree N l=some l:=by unfold F_i_copyTree;rw [appN h];rfl
theorem s_l6Copy {N:Nat} {l:List DRes} (h:l.length<BIG):F_s_l6Copy N l=some l:=by unfold F_s_l6Copy;rw [appN h];rfl
theorem i_copyObj {N:Nat} {o:DObj} (h:sz_DObj o<BIG):F_i_copyObj N o=some o:=by
  obtain ⟨h1,h2,h3⟩:=szObj h
  unfold F_i_copyObj
  simp only [i_copyInts h1,i_copyInts h2,appN h3,Option.bind_some]
theorem s_l8Obj {N:Nat} {o:DObj} (h:sz_DObj o<BIG):F_s_l8Obj N o=some o:=by
  obtain ⟨h1,h2,h3⟩:=szObj h
  unfold F_s_l8Obj
  simp only [appN h1,appN h2,appN h3,Option.bind_some]
theorem i_copyArena {N:Nat} (hN:BIG≤N) {l:List DObj} (hb:szL sz_DObj l<BIG):F_i_copyArena N l=some l:=by
  have hl:=szL_len hb
  unfold F_i_copyArena
  rw [iter_coll l (fun _ _=>true) (fun _ y=>y) hl hN,collI_filter (fun _=>true)]
  · simp
  · intro k t y hy hk ht
    simp only [lt_dec hk,cond_true,idx_nat,hy,Option.bind_some,i_copyObj (szL_mem hb (List.mem_of_getElem? hy)),wrap1 (Nat.lt_trans hk hl),app1 ht (Nat.lt_of_le_of_lt hk hl)]
    rfl
  · intro t
    simp only [ge_dec,cond_false]
theorem s_l8Copy {N:Nat} (hN:BIG≤N) {l:List DObj} (hb:szL sz_DObj l<BIG):F_s_l8Copy N l=some l:=by
  have hl:=szL_len hb
  unfold F_s_l8Copy
  rw [iter_coll l (fun _ _=>true) (fun _ y=>y) hl hN,collI_filter (fun _=>true)]
  · simp
  · intro k t y hy hk ht
    simp only [lt_dec hk,cond_true,idx_nat,hy,Option.bind_some,s_l8Obj (szL_mem hb (List.mem_of_getElem? hy)),wrap1 (Nat.lt_trans hk hl),app1 ht (Nat.lt_of_le_of_lt hk hl)]
    rfl
  · intro t
    simp only [ge_dec,cond_false]
theorem i_copyHeap {N:Nat} (hN:BIG≤N) {h:DHeap} (h1:szL sz_DObj h.arena<BIG) (h2:h.gc.grey.length<BIG):F_i_copyHeap N h=some h:=by
  unfold F_i_copyHeap
  simp only [i_copyArena hN h1,i_copyInts h2,Option.bind_some]
theorem s_l10Copy {N:Nat} (hN:BIG≤N) {h:DHeap} (h1:szL sz_DObj h.arena<BIG) (h2:h.gc.grey.length<BIG):F_s_l10Copy N h=some h:=by
  unfold F_s_l10Copy
  simp only [s_l8Copy hN h1,appN h2,Option.bind_some]
theorem i_copyPart {N:Nat} (hN:BIG≤N) {p:DPart} (h:sz_DPart p<BIG):F_i_copyPart N p=some p:=by
  obtain ⟨h1,h2,h3,h4,h5,h6⟩:=szPart h
  unfold F_i_copyPart
  simp only [i_copyLabel h1,i_copyInts h2,i_copyTree h3,i_copyHeap hN h4 h5,appN h6,Option.bind_some]
theorem s_l13Copy {N:Nat} (hN:BIG≤N) {p:DPart} (h:sz_DPart p<BIG):F_s_l13Copy N p=some p:=by
  obtain ⟨h1,h2,h3,h4,h5,h6⟩:=szPart h
  unfold F_s_l13Copy
  simp only [appN h1,appN h2,s_l6Copy h3,s_l10Copy hN h4 h5,appN h6,Option.bind_some]
theorem sub_take {α:Type} {l:List α} {k:Nat} (h:k≤l.length):sub l 0 (k:Int)=some (l.take k):=by
  unfold sub
  rw [if_pos ⟨Int.le_refl _,by omega,by omega⟩]
  simp
end Go.Kx
/- Plain laws: the first draws come to an end. No program in sight. -/
namespace Go.Kx
open Go
set_option linter.unusedVariables false
set_option linter.unusedSimpArgs false
set_option maxRecDepth 10000
theorem iter_to {σ ρ:Type} {body:σ→Option (σ⊕ρ)} (I:σ→Prop) (J:ρ→Prop) (μ:σ→Nat)
    (h:∀ s,I s→∃ o,body s=some o∧(∀ s',o=.inl s'→I s'∧μ s'<μ s)∧∀ r,o=.inr r→J r):∀ (N:Nat) (s:σ),I s→μ s<N→∃ r,iter body N s=some r∧J r
  | 0,_,_,hN=>absurd hN (Nat.not_lt_zero _)
  | N+1,s,hI,hN=>by
    obtain ⟨o,ho,h1,h2⟩:=h s hI
    cases o with
    | inl s' =>
      obtain ⟨hI',hm⟩:=h1 s' rfl
      obtain ⟨r,hr,hJ⟩:=iter_to I J μ h N s' hI' (by omega)
      exact ⟨r,by show (body s).bind _=_;rw [ho];exact hr,hJ⟩
    | inr r=>exact ⟨r,by show (body s).bind _=_;rw [ho];rfl,h2 r rfl⟩
theorem idx_ex {α:Type} {l:List α} {i:Int} (h0:0≤i) (h1:i<(l.length:Int)):∃ y,idx l i=some y∧y ∈ l:=by
  have hz:l[i.toNat]?=some (l[i.toNat]'(by omega)):=List.getElem?_eq_getElem _
  exact ⟨_,by unfold idx;rw [if_pos h0,hz],List.getElem_mem _⟩
theorem iAnd_le (a:Int) {m:Int} (h0:0≤m) (h1:m≤2147483647):0≤iAnd a m∧iAnd a m≤m:=by
  have h:(BitVec.ofInt IntKind.i64.bits a &&& BitVec.ofInt IntKind.i64.bits m).toNat≤m.toNat:=by
    rw [BitVec.toNat_and]
    refine Nat.le_trans Nat.and_le_right ?_
    rw [BitVec.toNat_ofInt]
    show (m % ((2 ^ 64:Nat):Int)).toNat≤m.toNat
    rw [Int.emod_eq_of_lt h0 (by omega)]
    exact Nat.le_refl _
  unfold iAnd
  rw [wrap_ok (by omega) (by omega)]
  omega
def Cu (c:DCur):Prop:=c.b.length≤1048576∧0≤c.i
theorem Cu.to {c:DCur} (hc:Cu c) {i h:Int} (hi:0≤i):Cu ⟨c.b,i,h⟩:=⟨hc.1,hi⟩
theorem d_New {N:Nat} (hN:BIG≤N) {l:List U8} (hl:l.length≤1048576):∃ h,F_s_l1New N l=some ⟨l,0,h⟩:=by
  unfold F_s_l1New
  have hB:(16777216:Nat)≤N:=hN
  obtain ⟨r,hr,_⟩:=iter_to (body:=fun (s1:Int×Int)=>((bif (decide (s1.2<(l.length:Int))) then (some (decide (s1.2<4000))) else (some false):Option Bool).bind fun j3=>bif j3 then ((idx l s1.2).bind fun y8=>some (.inl (iAnd (IntKind.i64.wrap ((IntKind.i64.wrap ((IntKind.i64.wrap (s1.1 * 131))+(IntKind.i64.wrap y8.v)))+7)) 1073741823,IntKind.i64.wrap (s1.2+1)))) else (some (.inr (s1.1,s1.2))):Option ((Int×Int)⊕(Int×Int))))
    (fun s=>0≤s.2∧s.2≤(l.length:Int)) (fun _=>True) (fun s=>((l.length:Int) - s.2).toNat) (by
      rintro ⟨h,i⟩ ⟨h0,h1⟩
      simp only at h0 h1
      cases hlt:decide (i<(l.length:Int)) with
      | false=>exact ⟨_,by simp only [hlt,cond_false,Option.bind_some];rfl,by simp,fun _ _=>trivial⟩
      | true =>
        have h2:=of_decide_eq_true hlt
        cases h4:decide (i<4000) with
        | false=>exact ⟨_,by simp only [hlt,h4,cond_false,cond_true,Option.bind_some];rfl,by simp,fun _ _=>trivial⟩
        | true =>
          obtain ⟨y,hy,_⟩:=idx_ex h0 h2
          refine ⟨_,by simp only [hlt,h4,hy,cond_true,Option.bind_some];rfl,?_,by simp⟩
          rintro s' hs
          cases Sum.inl.inj hs
          simp only
          rw [wrap_ok (by omega) (by omega)]
          omega) N (IntKind.i64.wrap (10101+(l.length:Int)),0) ⟨Int.le_refl _,by simp⟩ (by simp only;omega)
  rw [hr]
  exact ⟨r.1,rfl⟩
theorem d_Byte {N:Nat} {c:DCur} (hc:Cu c):∃ x i h,F_s_l1Byte N c=some (x,⟨c.b,i,h⟩)∧0≤i∧0≤x∧x≤255:=by
  unfold F_s_l1Byte
  obtain ⟨hb,hi⟩:=hc
  cases hlt:decide (c.i<(c.b.length:Int)) with
  | true =>
    have h1:=of_decide_eq_true hlt
    obtain ⟨y,hy,_⟩:=idx_ex hi h1
    simp only [hy,cond_true,Option.bind_some]
    exact ⟨_,_,_,rfl,by rw [wrap_ok (by omega) (by omega)];omega,iAnd_le _ (by decide) (by decide)⟩
  | false=>exact ⟨_,_,_,rfl,hi,iAnd_le _ (by decide) (by decide)⟩
theorem tmod_rng {a n:Int} (ha:0≤a) (hn:0<n):0≤Int.tmod a n∧Int.tmod a n<n:=by
  rw [Int.tmod_eq_emod_of_nonneg ha]
  exact ⟨Int.emod_nonneg _ (by omega),Int.emod_lt_of_pos _ hn⟩
theorem dz_ok {n:Int} (h:n ≠ 0):dz n=some ():=by unfold dz;rw [if_neg h]
theorem d_Below {N:Nat} {c:DCur} (hc:Cu c) (n:Int):∃ x i h,F_s_l1Below N c n=some (x,⟨c.b,i,h⟩)∧0≤i∧0≤x∧(0<n→x<n)∧(n≤0→x=0):=by
  unfold F_s_l1Below
  cases h0:decide (n≤0) with
  | true=>exact ⟨0,c.i,c.h,rfl,hc.2,Int.le_refl _,fun h=>h,fun _=>rfl⟩
  | false =>
    have hn:=of_decide_eq_false h0
    simp only [cond_false]
    cases h1:decide (n≤256) with
    | true =>
      obtain ⟨x,i,h,e,hi,hx,_⟩:=d_Byte (N:=N) hc
      simp only [cond_true,e,Option.bind_some,dz_ok (show n ≠ 0 by omega)]
      obtain ⟨q1,q2⟩:=tmod_rng hx (show 0<n by omega)
      exact ⟨_,i,h,rfl,hi,q1,fun _=>q2,fun h=>by omega⟩
    | false =>
      obtain ⟨x1,i1,h1,e1,hi1,hx1,hy1⟩:=d_Byte (N:=N) hc
      obtain ⟨x2,i2,h2,e2,hi2,hx2,hy2⟩:=d_Byte (N:=N) (hc.to (h:=h1) hi1)
      obtain ⟨x3,i3,h3,e3,hi3,hx3,hy3⟩:=d_Byte (N:=N) (hc.to (h:=h2) hi2)
      obtain ⟨x4,i4,h4,e4,hi4,hx4,hy4⟩:=d_Byte (N:=N) (hc.to (h:=h3) hi3)
      simp only [cond_false,e1,e2,e3,e4,Option.bind_some,dz_ok (show n ≠ 0 by omega)]
      rw [wrap_ok (n:=x1 * 16777216) (by omega) (by omega),wrap_ok (n:=x2 * 65536) (by omega) (by omega),wrap_ok (n:=x3 * 256) (by omega) (by omega),
        wrap_ok (n:=x1 * 16777216+x2 * 65536) (by omega) (by omega),wrap_ok (n:=x1 * 16777216+x2 * 65536+x3 * 256) (by omega) (by omega),wrap_ok (n:=x1 * 16777216+x2 * 65536+x3 * 256+x4) (by omega) (by omega)]
      obtain ⟨q1,q2⟩:=tmod_rng (show 0≤x1 * 16777216+x2 * 65536+x3 * 256+x4 by omega) (show 0<n by omega)
      exact ⟨_,i4,h4,rfl,hi4,q1,fun _=>q2,fun h=>by omega⟩
theorem d_Once {N:Nat} {c:DCur} (hc:Cu c) (n:Int):∃ x i h,F_s_l1Once N c n=some (x,⟨c.b,i,h⟩)∧0≤i:=by
  unfold F_s_l1Once
  obtain ⟨x,i,h,e,hi,_⟩:=d_Below (N:=N) hc n
  simp only [e,Option.bind_some]
  exact ⟨_,i,h,rfl,hi⟩
theorem d_PickInt {N:Nat} {c:DCur} (hc:Cu c) {l:List Int} (hl:0<l.length):∃ x i h,F_s_l1PickInt N c l=some (x,⟨c.b,i,h⟩)∧0≤i∧x ∈ l:=by
  unfold F_s_l1PickInt
  obtain ⟨x,i,h,e,hi,hx,hy,_⟩:=d_Below (N:=N) hc (l.length:Int)
  obtain ⟨y,hy,hm⟩:=idx_ex hx (hy (by omega))
  simp only [e,Option.bind_some,hy]
  exact ⟨_,i,h,rfl,hi,hm⟩
theorem appD {α:Type} {t:List α} {z:α} (h:t.length≤1000000):app t [z]=some (t++[z]):=by
  have:(16777216:Nat)=BIG:=rfl
  unfold app;rw [if_pos (by simp only [List.length_cons,List.length_nil];omega)]
theorem d_Label {N:Nat} (hN:BIG≤N) {c:DCur} (hc:Cu c):∃ x i h,F_s_l3Label N c=some (x,⟨c.b,i,h⟩)∧0≤i∧x.levels.length=4∧∀ y,y ∈ x.levels→0≤y∧y≤3:=by
  unfold F_s_l3Label
  have hB:(16777216:Nat)≤N:=hN
  obtain ⟨r,hr,hJ⟩:=iter_to (body:=fun (s6:Int×Int×Int×(List Int))=>(bif (decide (s6.1<4)) then ((F_s_l1Below N (DCur.mk c.b s6.2.1 s6.2.2.1) 4).bind fun y9=>(app s6.2.2.2 ([y9.1]:List Int)).bind fun y16=>some (.inl (IntKind.i64.wrap (s6.1+1),y9.2.i,y9.2.h,y16))) else (some (.inr (s6.1,s6.2.1,s6.2.2.1,s6.2.2.2))):Option ((Int×Int×Int×(List Int))⊕(Int×Int×Int×(List Int)))))
    (fun s=>0≤s.1∧s.1≤4∧0≤s.2.1∧(s.2.2.2.length:Int)=s.1∧∀ y,y ∈ s.2.2.2→0≤y∧y≤3) (fun s=>0≤s.2.1∧s.2.2.2.length=4∧∀ y,y ∈ s.2.2.2→0≤y∧y≤3) (fun s=>(4 - s.1).toNat) (by
      rintro ⟨k,i,h,l⟩ ⟨h0,h1,h2,h3,h4⟩
      simp only at h0 h1 h2 h3 h4
      cases hlt:decide (k<4) with
      | false =>
        have:=of_decide_eq_false hlt
        refine ⟨_,by simp only [hlt,cond_false];rfl,by simp,fun r hr=>?_⟩
        cases Sum.inr.inj hr
        exact ⟨h2,by simp only;omega,h4⟩
      | true =>
        have:=of_decide_eq_true hlt
        obtain ⟨x,i',h',e,hi,hx,hy,_⟩:=d_Below (N:=N) (hc.to (h:=h) h2) 4
        refine ⟨_,by simp only [hlt,cond_true,e,Option.bind_some,appD (t:=l) (z:=x) (by omega)];rfl,?_,by simp⟩
        rintro s' hs
        cases Sum.inl.inj hs
        simp only
        rw [wrap_ok (by omega) (by omega)]
        refine ⟨⟨by omega,by omega,hi,by simp only [List.length_append,List.length_cons,List.length_nil];omega,fun y hm=>?_⟩,by omega⟩
        rcases List.mem_append.1 hm with hm | hm
        · exact h4 y hm
        · rw [List.mem_singleton] at hm
          have:=hy (by omega)
          omega) N (0,c.i,c.h,[]) ⟨Int.le_refl _,by simp,hc.2,rfl,by simp⟩ (by simp only;omega)
  rw [hr]
  exact ⟨_,_,_,rfl,hJ.1,hJ.2.1,hJ.2.2⟩
theorem d_LabelAny {N:Nat} (hN:BIG≤N) {c:DCur} (hc:Cu c):∃ x i h,F_s_l3Any N c=some (x,⟨c.b,i,h⟩)∧0≤i∧x.levels.length≤5:=by
  unfold F_s_l3Any
  obtain ⟨x,i,h,e,hi,hl,_⟩:=d_Label hN hc
  obtain ⟨x1,i1,h1,e1,hi1,_⟩:=d_Below (N:=N) (hc.to (h:=h) hi) 14
  obtain ⟨x2,i2,h2,e2,hi2,hx2,hy2,_⟩:=d_Below (N:=N) (hc.to (h:=h1) hi1) 4
  have hy2:=hy2 (by decide)
  obtain ⟨x3,i3,h3,e3,hi3,_⟩:=d_PickInt (N:=N) (hc.to (h:=h2) hi2) (l:=[-1,4]) (by decide)
  simp only [e,e1,Option.bind_some]
  cases x1==0
  · cases x1==1
    · cases x1==2
      · exact ⟨_,i1,h1,rfl,hi1,by simp only;omega⟩
      · simp only [cond_true,cond_false,appD (t:=x.levels) (z:=0) (by omega),Option.bind_some]
        exact ⟨_,i1,h1,rfl,hi1,by simp only [List.length_append,List.length_cons,List.length_nil];omega⟩
    · obtain ⟨y,hy,_⟩:=idx_ex (l:=x.levels) hx2 (by omega)
      simp only [cond_true,cond_false,e2,e3,hy,Option.bind_some]
      exact ⟨_,i3,h3,rfl,hi3,by simp only [List.length_set];omega⟩
  · have hs:sub x.levels 0 x2=some ((x.levels.drop (0:Int).toNat).take (x2.toNat - (0:Int).toNat)):=by unfold sub;rw [if_pos ⟨Int.le_refl _,hx2,by omega⟩]
    simp only [cond_true,e2,hs,Option.bind_some]
    exact ⟨_,i2,h2,rfl,hi2,by simp only [List.length_take,List.length_drop];omega⟩
theorem d_Own {N:Nat} (hN:BIG≤N) {c:DCur} (hc:Cu c):∃ x i h,F_s_l4Own N c=some (x,⟨c.b,i,h⟩)∧0≤i∧x.length≤5:=by
  unfold F_s_l4Own
  have hB:(16777216:Nat)≤N:=hN
  obtain ⟨r,hr,hJ⟩:=iter_to (body:=fun (s4:(List Int)×Int×Int×Int)=>(bif (decide (s4.2.1<4)) then ((F_s_l1Once N (DCur.mk c.b s4.2.2.1 s4.2.2.2) 3).bind fun y7=>bif y7.1 then ((app s4.1 [s4.2.1]).bind fun y14=>some (.inl (y14,IntKind.i64.wrap (s4.2.1+1),y7.2.i,y7.2.h))) else (some (.inl (s4.1,IntKind.i64.wrap (s4.2.1+1),y7.2.i,y7.2.h)))) else (some (.inr (s4.1,s4.2.1,s4.2.2.1,s4.2.2.2))):Option (((List Int)×Int×Int×Int)⊕((List Int)×Int×Int×Int))))
    (fun s=>0≤s.2.1∧s.2.1≤4∧0≤s.2.2.1∧(s.1.length:Int)≤s.2.1) (fun s=>0≤s.2.2.1∧s.1.length≤4) (fun s=>(4 - s.2.1).toNat) (by
      rintro ⟨l,k,i,h⟩ ⟨h0,h1,h2,h3⟩
      simp only at h0 h1 h2 h3
      cases hlt:decide (k<4) with
      | false =>
        have:=of_decide_eq_false hlt
        refine ⟨_,by simp only [hlt,cond_false];rfl,by simp,fun r hr=>?_⟩
        cases Sum.inr.inj hr
        exact ⟨h2,by simp only;omega⟩
      | true =>
        have:=of_decide_eq_true hlt
        obtain ⟨x,i',h',e,hi⟩:=d_Once (N:=N) (hc.to (h:=h) h2) 3
        cases x with
        | false =>
          refine ⟨_,by simp only [hlt,cond_true,cond_false,e,Option.bind_some];rfl,?_,by simp⟩
          rintro s' hs
          cases Sum.inl.inj hs
          simp only
          rw [wrap_ok (by omega) (by omega)]
          exact ⟨⟨by omega,by omega,hi,by omega⟩,by omega⟩
        | true =>
          refine ⟨_,by simp only [hlt,cond_true,e,Option.bind_some,appD (t:=l) (z:=k) (by omega)];rfl,?_,by simp⟩
          rintro s' hs
          cases Sum.inl.inj hs
          simp only
          rw [wrap_ok (by omega) (by omega)]
          exact ⟨⟨by omega,by omega,hi,by simp only [List.length_append,List.length_cons,List.length_nil];omega⟩,by omega⟩) N ([],0,c.i,c.h) ⟨Int.le_refl _,by simp,hc.2,by simp⟩ (by simp only;omega)
  rw [hr]
  obtain ⟨j1,j2⟩:=hJ
  obtain ⟨x1,i1,h1,e1,hi1,_⟩:=d_Below (N:=N) (hc.to (h:=r.2.2.2) j1) 20
  simp only [e1,Option.bind_some,appD (t:=r.1) (z:=(4:Int)) (by omega),appD (t:=r.1) (z:=(0:Int)) (by omega)]
  cases x1==0
  · cases x1==1
    · exact ⟨_,i1,h1,rfl,hi1,by omega⟩
    · exact ⟨_,i1,h1,rfl,hi1,by simp only [List.length_append,List.length_cons,List.length_nil];omega⟩
  · exact ⟨_,i1,h1,rfl,hi1,by simp only [List.length_append,List.length_cons,List.length_nil];omega⟩
theorem d_Num {N:Nat} {c:DCur} (hc:Cu c):∃ x i h,F_s_l5Num N c=some (x,⟨c.b,i,h⟩)∧0≤i:=by
  unfold F_s_l5Num
  obtain ⟨x,i,h,e,hi⟩:=d_Once (N:=N) hc 20
  simp only [e,Option.bind_some]
  cases x
  · obtain ⟨x1,i1,h1,e1,hi1,_⟩:=d_Below (N:=N) (hc.to (h:=h) hi) 60
    simp only [cond_false,e1,Option.bind_some]
    exact ⟨_,i1,h1,rfl,hi1⟩
  · obtain ⟨x1,i1,h1,e1,hi1,_⟩:=d_PickInt (N:=N) (hc.to (h:=h) hi) (l:=[-1,1000000,1000001,999999]) (by decide)
    simp only [cond_true,e1,Option.bind_some]
    exact ⟨_,i1,h1,rfl,hi1⟩
theorem d_Amt {N:Nat} {c:DCur} (hc:Cu c):∃ x i h,F_s_l5Any N c=some (x,⟨c.b,i,h⟩)∧0≤i:=by
  unfold F_s_l5Any
  obtain ⟨x1,i1,h1,e1,hi1⟩:=d_Num (N:=N) hc
  obtain ⟨x2,i2,h2,e2,hi2⟩:=d_Num (N:=N) (hc.to (h:=h1) hi1)
  obtain ⟨x3,i3,h3,e3,hi3⟩:=d_Num (N:=N) (hc.to (h:=h2) hi2)
  simp only [e1,e2,e3,Option.bind_some]
  exact ⟨_,i3,h3,rfl,hi3⟩
end Go.Kx
/- Plain laws: trees of reserves. No program in sight. -/
namespace Go.Kx
open Go
set_option linter.unusedVariables false
set_option linter.unusedSimpArgs false
set_option maxRecDepth 10000
def nth {α:Type} [Dat α] (l:List α) (i:Int):α:=(l[i.toNat]?).getD Dat.zero
theorem idx_ok {α:Type} [Dat α] {l:List α} {i:Int} (h0:0≤i) (h1:i<(l.length:Int)):idx l i=some (nth l i):=by
  have hz:l[i.toNat]?=some (l[i.toNat]'(by omega)):=List.getElem?_eq_getElem _
  unfold idx nth
  rw [if_pos h0,hz];rfl
theorem idx_in {α:Type} [Dat α] {l:List α} {i a b:Int} (h:inR i a b=true) (ha:0≤a) (hb:b<(l.length:Int)):idx l i=some (nth l i):=by
  rw [inR_iff] at h
  exact idx_ok (by omega) (by omega)
theorem nth_of {α:Type} [Dat α] {l:List α} {k:Nat} {y:α} (h:l[k]?=some y):nth l (k:Int)=y:=by simp [nth,h]
theorem nth_mem {α:Type} [Dat α] {l:List α} {i:Int} (h0:0≤i) (h1:i<(l.length:Int)):nth l i ∈ l:=by
  have hz:l[i.toNat]?=some (l[i.toNat]'(by omega)):=List.getElem?_eq_getElem _
  unfold nth;rw [hz];exact List.getElem_mem _
theorem lenB {α:Type} {l:List α} {n:Nat} (h:((l.length:Int) != (n:Int))=false):l.length=n:=by simp at h;omega
theorem i_isPlace (N:Nat) (a:Int):F_i_isPlace N a=some (inR a 0 4):=by unfold F_i_isPlace;rw [i_in];rfl
theorem s_l6Res (N:Nat) (a:Int):F_s_l6Res N a=some (inR a 0 4):=by unfold F_s_l6Res;rw [s_in];rfl
def liveAt (t:List DRes) (i:Int):Bool:=inR i 0 4&&(nth t i).live
def up (t:List DRes) (i:Int):Int:=(nth t i).parent
def leads (t:List DRes):Nat→Int→Bool
  | 0,_=>false
  | n+1,i=>(i==0) || (liveAt t i&&leads t n (up t i))
def climb (t:List DRes):Nat→Int→Int
  | 0,a=>a
  | n+1,a=>if a > 0 then climb t n (up t a) else a
theorem i_isLive (N:Nat) {t:List DRes} (h:t.length=5) (i:Int):F_i_isLive N t i=some (liveAt t i):=by
  unfold F_i_isLive liveAt
  rw [i_isPlace,Option.bind_some]
  cases hi:inR i 0 4
  · rfl
  · simp only [cond_true,idx_in hi (by omega) (show (4:Int)<(t.length:Int) by omega),Option.bind_some,Bool.true_and]
theorem lt5 {k:Nat} (h:k<(List.replicate 5 ()).length):k<5∧decide ((k:Int)<5)=true:=by
  have h:k<5:=by simpa using h
  exact ⟨h,by simp;omega⟩
theorem ltN {k n:Nat} {N:Nat} (hN:BIG≤N) (hn:n<16777216):(List.replicate n ()).length<N:=by
  have:16777216≤N:=hN
  simp;omega
theorem i_leadsUp {N:Nat} (hN:BIG≤N) {t:List DRes} (h:t.length=5) (i:Int):F_i_leadsUp N t i=some (leads t 5 i):=by
  unfold F_i_leadsUp
  rw [show ((i,0):Int×Int)=(fun (k:Nat) (a:Int)=>(a,(k:Int))) 0 i from rfl,
    iter_list (List.replicate 5 ()) (fun (k:Nat) (a:Int)=>(a,(k:Int))) (fun _ a _=>if a==0 then .inr (.inr true) else if liveAt t a then .inl (up t a) else .inr (.inr false)) (fun a=>.inl (a,5)) (fun _ _=>True) ?_ ?_ (ltN (k:=0) hN (by decide)) trivial]
  · have key:∀ (n k:Nat) (a:Int),Sum.elim (fun _=>some false) (fun r20=>some r20) (runL (ρ:=(Int×Int)⊕Bool) (fun (_:Nat) a (_:Unit)=>if a==0 then .inr (.inr true) else if liveAt t a then .inl (up t a) else .inr (.inr false)) (fun a=>.inl (a,5)) k a (List.replicate n ()))=some (leads t n a):=by
      intro n
      induction n with
      | zero=>intro k a;rfl
      | succ n ih =>
        intro k a
        rw [List.replicate_succ]
        unfold runL leads
        cases h0:(a==0)
        · cases h1:liveAt t a
          · rfl
          · simpa using ih (k+1) (up t a)
        · rfl
    exact key 5 0 i
  · intro k a y hy hk _
    obtain ⟨h5,hd⟩:=lt5 hk
    refine ⟨?_,fun _ _=>trivial⟩
    simp only [hd,cond_true,i_isLive N h,Option.bind_some]
    cases h0:(a==0)
    · cases h1:liveAt t a
      · rfl
      · have hin:inR a 0 4=true:=by unfold liveAt at h1;simp at h1;exact h1.1
        simp only [idx_in hin (by omega) (show (4:Int)<(t.length:Int) by omega),wrap1 (show k<BIG from Nat.lt_trans h5 (by decide)),Option.bind_some]
        rfl
    · rfl
  · intro a _
    rfl
def zRes:DRes:=DRes.mk false 0 (DAmt.mk 0 0 0)
def treeP (t:List DRes) (k:Nat) (r:DRes):Bool:=if r.live then amtOk r.bal&&leads t 5 (k:Int) else decide (r=zRes)
def sumLive (s:DAmt) (t:List DRes):DAmt:=t.foldl (fun s r=>if r.live then amtSum s r.bal else s) s
def treeOk (t:List DRes):Bool:=!((t.length:Int) != 5)&&((nth t 0).live&&(!((nth t 0).parent != (-1))&&(allI (treeP t) 0 t&&amtOk (sumLive ⟨0,0,0⟩ t))))
theorem i_TreeOk {N:Nat} (hN:BIG≤N) {t:List DRes}:F_i_TreeOk N t=some (treeOk t):=by
  unfold F_i_TreeOk treeOk
  cases h5:((t.length:Int) != 5)
  · have hl:t.length=5:=lenB (n:=5) h5
    have hB:t.length<BIG:=by rw [hl];decide
    rw [idx_ok (l:=t) (i:=0) (by omega) (by omega)]
    simp only [cond_false,Option.bind_some,bOr,Bool.not_false,Bool.true_and]
    cases h1:(nth t 0).live
    · rfl
    cases h2:((nth t 0).parent != (-1))
    · simp only [Bool.not_true,Bool.or_self,cond_false,Bool.true_and,Bool.not_false]
      rw [show ((0:Int),(0:Int),(0:Int),(0:Int))=(fun (k:Nat) (s:DAmt)=>((k:Int),s.pages,s.rent,s.cpu)) 0 ⟨0,0,0⟩ from rfl,
        iter_list t (fun (k:Nat) (s:DAmt)=>((k:Int),s.pages,s.rent,s.cpu)) (fun k s r=>if treeP t k r then .inl (if r.live then amtSum s r.bal else s) else .inr (.inr false)) (fun s=>.inl ((t.length:Int),s.pages,s.rent,s.cpu)) (fun _ _=>True) ?_ ?_ (Nat.lt_of_lt_of_le hB hN) trivial]
      · simp only [Option.bind_some,i_AmtOk]
        have key:∀ (l:List DRes) (k:Nat) (s:DAmt),Sum.elim (fun (o48:Int×Int×Int×Int)=>some (amtOk (DAmt.mk o48.2.1 o48.2.2.1 o48.2.2.2))) (fun r53=>some r53) (runL (fun k s r=>if treeP t k r then .inl (if r.live then amtSum s r.bal else s) else .inr (.inr false)) (fun s=>.inl ((t.length:Int),s.pages,s.rent,s.cpu)) k s l)=some (allI (treeP t) k l&&amtOk (sumLive s l)):=by
          intro l
          induction l with
          | nil=>intro k s;rfl
          | cons r l ih =>
            intro k s
            unfold runL allI
            cases hp:treeP t k r
            · rfl
            · simpa [sumLive] using ih (k+1) (if r.live then amtSum s r.bal else s)
        exact key t 0 _
      · intro k s r hy hk _
        refine ⟨?_,fun _ _=>trivial⟩
        simp only [lt_dec hk,cond_true,idx_nat,hy,Option.bind_some,i_AmtOk,i_leadsUp hN hl,i_sumOf,bOr,wrap1 (Nat.lt_trans hk hB)]
        unfold treeP
        cases hlv:r.live
        · show (bif !decide (r=zRes) then _ else _)=_
          cases decide (r=zRes) <;> rfl
        · cases amtOk r.bal <;> cases leads t 5 (k:Int) <;> rfl
      · intro s _
        simp only [ge_dec,cond_false]
    · rfl
  · rfl
def p1 (t:List DRes) (k:Nat) (r:DRes):Bool:=!((!r.live&&!decide (r=zRes)) || !amtOk r.bal)&&!(decide ((k:Int) > 0)&&(r.live&&(!inR r.parent 0 4 || (r.parent==(k:Int) || !(nth t r.parent).live))))
def p2 (t:List DRes) (k:Nat) (r:DRes):Bool:=!(r.live&&(climb t 5 (k:Int) != 0))
def Good (t:List DRes):Prop:=∀ i:Int,0<i→i≤4→(nth t i).live=true→0≤up t i∧up t i≤4∧up t i ≠ i∧(nth t (up t i)).live=true
theorem good_of {t:List DRes} (hl:t.length=5) (h:allI (p1 t) 0 t=true):Good t:=by
  intro i h0 h4 hlv
  rw [allI_iff] at h
  have hz:t[i.toNat]?=some (nth t i):=by
    have:=idx_ok (l:=t) (i:=i) (by omega) (by omega)
    unfold idx at this
    rwa [if_pos (by omega)] at this
  have:=h _ _ hz
  have e:((0+i.toNat:Nat):Int)=i:=by omega
  unfold p1 at this
  rw [e] at this
  unfold up
  simp [hlv,inR] at this
  rcases this.2 with q | q
  · omega
  · exact ⟨q.1.1,q.1.2,q.2.1,q.2.2⟩
theorem climb_inv {t:List DRes} (hg:Good t):∀ (n:Nat) (a:Int),0≤a→a≤4→(nth t a).live=true→0≤climb t n a∧climb t n a≤4∧(nth t (climb t n a)).live=true
  | 0,a,h0,h4,hlv=>⟨h0,h4,hlv⟩
  | n+1,a,h0,h4,hlv=>by
    unfold climb
    by_cases ha:a > 0
    · rw [if_pos ha]
      obtain ⟨g1,g2,_,g4⟩:=hg a ha h4 hlv
      exact climb_inv hg n _ g1 g2 g4
    · rw [if_neg ha];exact ⟨h0,h4,hlv⟩
theorem climb_add (t:List DRes):∀ (m n:Nat) (a:Int),climb t (m+n) a=climb t n (climb t m a)
  | 0,n,a=>by simp [climb]
  | m+1,n,a=>by
    rw [show m+1+n=(m+n)+1 by omega]
    show (if a > 0 then climb t (m+n) (up t a) else a)=climb t n (if a > 0 then climb t m (up t a) else a)
    by_cases ha:a > 0
    · rw [if_pos ha,if_pos ha,climb_add t m n]
    · rw [if_neg ha,if_neg ha]
      cases n <;> simp [climb,ha]
theorem climb_zero (t:List DRes) (n:Nat):climb t n 0=0:=by cases n <;> simp [climb]
theorem leads_climb {t:List DRes} (hg:Good t):∀ (n:Nat) (a:Int),0≤a→a≤4→(nth t a).live=true→leads t (n+1) a=(climb t n a==0)
  | 0,a,h0,h4,hlv=>by simp [leads,climb]
  | n+1,a,h0,h4,hlv=>by
    rw [show leads t (n+1+1) a=((a==0) || (liveAt t a&&leads t (n+1) (up t a))) from rfl]
    unfold climb
    by_cases ha:a=0
    · subst ha;simp
    · have hp:a > 0:=by omega
      obtain ⟨g1,g2,_,g4⟩:=hg a hp h4 hlv
      rw [if_pos hp,leads_climb hg n _ g1 g2 g4]
      have:liveAt t a=true:=by simp [liveAt,inR_iff,hlv];omega
      have h0':(a==0)=false:=by simpa using ha
      rw [this,h0'];rfl
theorem climb_45 {t:List DRes} (hg:Good t) {a:Int} (h0:0≤a) (h4:a≤4) (hlv:(nth t a).live=true) (h:climb t 5 a=0):climb t 4 a=0:=by
  have key:∀ (i j:Nat),i+j≤5→climb t i a=climb t (i+j) a→climb t (5 - j) a=0:=by
    intro i j hij e
    have h1:climb t (5 - j) a=climb t (5 - j - i) (climb t i a):=by rw [← climb_add];congr 1;omega
    have h2:climb t 5 a=climb t (5 - j - i) (climb t (i+j) a):=by rw [← climb_add];congr 1;omega
    rw [h1,e, ← h2,h]
  have mono:∀ (i j:Nat),climb t i a=0→climb t (i+j) a=0:=by
    intro i j e
    rw [climb_add,e,climb_zero]
  rcases Decidable.em (climb t 4 a=0) with q | q
  · exact q
  exfalso
  have nz:∀ i,i≤4→climb t i a ≠ 0:=fun i hi e=>q (by have:=mono i (4 - i) e;rwa [show i+(4 - i)=4 by omega] at this)
  have rng:∀ i,i≤4→1≤climb t i a∧climb t i a≤4:=fun i hi=>by
    obtain ⟨r1,r2,_⟩:=climb_inv hg i a h0 h4 hlv
    have:=nz i hi
    omega
  have ne:∀ (i j:Nat),0<j→i+j≤4→climb t i a ≠ climb t (i+j) a:=fun i j hj hij e=>nz (5 - j) (by omega) (key i j (by omega) e)
  have r0:=rng 0 (by omega)
  have r1:=rng 1 (by omega)
  have r2:=rng 2 (by omega)
  have r3:=rng 3 (by omega)
  have r4:=rng 4 (by omega)
  have n01:=ne 0 1 (by omega) (by omega)
  have n02:=ne 0 2 (by omega) (by omega)
  have n03:=ne 0 3 (by omega) (by omega)
  have n04:=ne 0 4 (by omega) (by omega)
  have n12:=ne 1 1 (by omega) (by omega)
  have n13:=ne 1 2 (by omega) (by omega)
  have n14:=ne 1 3 (by omega) (by omega)
  have n23:=ne 2 1 (by omega) (by omega)
  have n24:=ne 2 2 (by omega) (by omega)
  have n34:=ne 3 1 (by omega) (by omega)
  simp only [Nat.zero_add,Nat.reduceAdd] at *
  generalize climb t 0 a=c0 at *
  generalize climb t 1 a=c1 at *
  generalize climb t 2 a=c2 at *
  generalize climb t 3 a=c3 at *
  generalize climb t 4 a=c4 at *
  clear key mono nz rng ne
  omega
theorem leads_no {t:List DRes} {a:Int} (ha:a ≠ 0) (hu:up t a=a):∀ n,leads t n a=false
  | 0=>rfl
  | n+1=>by
    unfold leads
    rw [hu,leads_no ha hu n]
    simp [ha]
theorem tree_same {t:List DRes} (hl:t.length=5) (h0:(nth t 0).live=true):(allI (p1 t) 0 t&&allI (p2 t) 0 t)=allI (treeP t) 0 t:=by
  have hget:∀ (i:Nat) (r:DRes),t[i]?=some r→(i:Int)≤4∧nth t (i:Int)=r:=fun i r h=>⟨by have:=lt_of_some h;omega,nth_of h⟩
  rw [Bool.eq_iff_iff,Bool.and_eq_true]
  constructor
  · rintro ⟨h1,h2⟩
    have hg:=good_of hl h1
    rw [allI_iff] at h1 h2 ⊢
    intro i r hr
    obtain ⟨i4,hn⟩:=hget i r hr
    have q1:=h1 i r hr
    have q2:=h2 i r hr
    simp only [Nat.zero_add] at q1 q2 ⊢
    unfold p1 at q1
    unfold p2 at q2
    unfold treeP
    cases hlv:r.live
    · simp [hlv] at q1
      simp [q1.1]
    · simp [hlv] at q1 q2
      have hlv':(nth t (i:Int)).live=true:=by rw [hn];exact hlv
      have:=climb_45 hg (by omega) i4 hlv' q2
      simp only [if_true,Bool.and_eq_true]
      refine ⟨q1.1,?_⟩
      rw [leads_climb hg 4 _ (by omega) i4 hlv',this];rfl
  · intro h
    rw [allI_iff] at h
    have hp:∀ (i:Int),0≤i→i≤4→(nth t i).live=true→amtOk (nth t i).bal=true∧leads t 5 i=true:=by
      intro i hi hi4 hlv
      have hz:t[i.toNat]?=some (nth t i):=by
        have:=idx_ok (l:=t) (i:=i) (by omega) (by omega)
        unfold idx at this
        rwa [if_pos (by omega)] at this
      have:=h _ _ hz
      unfold treeP at this
      rw [if_pos hlv] at this
      have e:((0+i.toNat:Nat):Int)=i:=by omega
      rw [e] at this
      simpa using this
    have hg:Good t:=by
      intro i hi hi4 hlv
      obtain ⟨_,q⟩:=hp i (by omega) hi4 hlv
      have hne:up t i ≠ i:=fun e=>by rw [leads_no (by omega) e] at q;cases q
      have hi0:(i==0)=false:=by simp;omega
      rw [show leads t 5 i=((i==0) || (liveAt t i&&leads t 4 (up t i))) from rfl,hi0] at q
      simp only [Bool.false_or,Bool.and_eq_true] at q
      rw [show leads t 4 (up t i)=((up t i==0) || (liveAt t (up t i)&&leads t 3 (up t (up t i)))) from rfl] at q
      rcases Decidable.em (up t i=0) with e | e
      · rw [e];exact ⟨by omega,by omega,by omega,h0⟩
      · have e':(up t i==0)=false:=by simpa using e
        rw [e'] at q
        simp only [Bool.false_or,Bool.and_eq_true] at q
        have:=q.2.1
        simp only [liveAt,Bool.and_eq_true,inR_iff] at this
        exact ⟨this.1.1,this.1.2,hne,this.2⟩
    rw [allI_iff,allI_iff]
    refine ⟨fun i r hr=>?_,fun i r hr=>?_⟩
    · obtain ⟨i4,hn⟩:=hget i r hr
      have q:=h i r hr
      simp only [Nat.zero_add] at q ⊢
      unfold p1
      unfold treeP at q
      cases hlv:r.live
      · simp [hlv] at q
        subst q
        simp;decide
      · simp [hlv] at q
        simp [q.1]
        by_cases hi:i=0
        · exact .inl hi
        · have:=hg (i:Int) (by omega) i4 (by rw [hn];exact hlv)
          unfold up at this
          rw [hn] at this
          exact .inr ⟨inR_iff.2 ⟨this.1,this.2.1⟩,this.2.2.1,this.2.2.2⟩
    · obtain ⟨i4,hn⟩:=hget i r hr
      simp only [Nat.zero_add]
      unfold p2
      cases hlv:r.live
      · rfl
      · have hlv':(nth t (i:Int)).live=true:=by rw [hn];exact hlv
        obtain ⟨_,q⟩:=hp (i:Int) (by omega) i4 hlv'
        rw [leads_climb hg 4 _ (by omega) i4 hlv'] at q
        have q:climb t 4 (i:Int)=0:=by simpa using q
        have:climb t 5 (i:Int)=0:=by rw [show 5=4+1 from rfl,climb_add,q,climb_zero]
        simp [this]
theorem s_l6Sum {N:Nat} (hN:BIG≤N) {t:List DRes} (hB:t.length<BIG):F_s_l6Sum N t=some (sumLive ⟨0,0,0⟩ t):=by
  unfold F_s_l6Sum sumLive
  rw [show ((0:Int),(0:Int),(0:Int),(0:Int))=(fun (k:Nat) (s:DAmt)=>((k:Int),s.pages,s.rent,s.cpu)) 0 ⟨0,0,0⟩ from rfl,
    iter_fold t (fun (k:Nat) (s:DAmt)=>((k:Int),s.pages,s.rent,s.cpu)) (fun _ s r=>if r.live then amtSum s r.bal else s) (fun s=>((t.length:Int),s.pages,s.rent,s.cpu)) (fun _ _=>True) ?_ ?_ (Nat.lt_of_lt_of_le hB hN) trivial,foldI_const]
  · rfl
  · intro k s r hy hk _
    refine ⟨?_,trivial⟩
    simp only [lt_dec hk,cond_true,idx_nat,hy,Option.bind_some,wrap1 (Nat.lt_trans hk hB)]
    cases r.live <;> rfl
  · intro s _
    simp only [ge_dec,cond_false]
theorem climbLoop {N:Nat} (hN:BIG≤N) {t:List DRes} (hl:t.length=5) (hg:Good t) {k:Nat} {r:DRes} (hr:t[k]?=some r) :
    ∃ n,iter (fun (s72:Int×Int)=>((bif (decide (s72.2<5)) then ((idx t (k:Int)).bind fun y77=>bif y77.live then (some (decide (s72.1 > 0))) else (some false)) else (some false):Option Bool).bind fun j74=>bif j74 then ((idx t s72.1).bind fun y89=>some (.inl (y89.parent,IntKind.i64.wrap (s72.2+1)))) else (some (.inr (s72.1,s72.2))):Option ((Int×Int)⊕(Int×Int)))) N ((k:Int),0)=some (if r.live then climb t 5 (k:Int) else (k:Int),n):=by
  have hk:=lt_of_some hr
  rw [show (((k:Int),0):Int×Int)=(fun (n:Nat) (a:Int)=>(a,(n:Int))) 0 (k:Int) from rfl,
    iter_list (List.replicate 5 ()) (fun (n:Nat) (a:Int)=>(a,(n:Int))) (fun n a _=>if r.live&&decide (a > 0) then .inl (up t a) else .inr (a,(n:Int))) (fun a=>(a,5)) (fun _ a=>r.live=true→0≤a∧a≤4∧(nth t a).live=true) ?_ ?_ (ltN (k:=0) hN (by decide)) (fun h=>⟨by omega,by omega,by rw [nth_of hr];exact h⟩)]
  · have key:∀ (n j:Nat) (a:Int),(runL (ρ:=Int×Int) (fun (n:Nat) a (_:Unit)=>if r.live&&decide (a > 0) then .inl (up t a) else .inr (a,(n:Int))) (fun a=>(a,5)) j a (List.replicate n ())).1=if r.live then climb t n a else a:=by
      intro n
      induction n with
      | zero=>intro j a;simp [runL,climb]
      | succ n ih =>
        intro j a
        rw [List.replicate_succ]
        unfold runL climb
        cases hlv:r.live
        · rfl
        · have ih:=ih (j+1) (up t a)
          rw [hlv] at ih
          by_cases ha:a > 0
          · simpa [ha] using ih
          · simp [ha]
    have:=key 5 0 (k:Int)
    exact ⟨_,congrArg some (Prod.ext this rfl)⟩
  · intro n a y hy hn hI
    obtain ⟨h5,hd⟩:=lt5 hn
    simp only [hd,cond_true,idx_nat,hr,Option.bind_some]
    cases hlv:r.live
    · exact ⟨rfl,fun t' h=>by simp at h⟩
    · obtain ⟨i1,i2,i3⟩:=hI hlv
      by_cases ha:a > 0
      · have hd2:decide (a > 0)=true:=by simpa using ha
        simp only [cond_true,hd2,Option.bind_some,idx_ok (l:=t) (i:=a) i1 (by omega),wrap1 (show n<BIG from Nat.lt_trans h5 (by decide)),Bool.and_self,if_true]
        refine ⟨rfl,fun t' h _=>?_⟩
        cases h
        obtain ⟨g1,g2,_,g4⟩:=hg a ha i2 i3
        exact ⟨g1,g2,g4⟩
      · have hd2:decide (a > 0)=false:=by simpa using ha
        simp only [cond_true,hd2,Option.bind_some,cond_false]
        exact ⟨rfl,fun t' h=>by simp at h⟩
  · intro a _
    rfl
theorem s_TreeOk {N:Nat} (hN:BIG≤N) {t:List DRes}:F_s_TreeOk N t=some (treeOk t):=by
  unfold F_s_TreeOk treeOk
  cases h5:((t.length:Int) != 5)
  · have hl:t.length=5:=lenB (n:=5) h5
    have hB:t.length<BIG:=by rw [hl];decide
    rw [idx_ok (l:=t) (i:=0) (by omega) (by omega)]
    simp only [cond_false,Option.bind_some,bOr,Bool.not_false,Bool.true_and]
    cases h1:(nth t 0).live
    · rfl
    cases h2:((nth t 0).parent != (-1))
    · simp only [Bool.not_true,Bool.or_self,cond_false,Bool.true_and,Bool.not_false]
      rw [iter_all t (p1 t) (.inl (t.length:Int)) (.inr false) (Nat.lt_of_lt_of_le hB hN), ← tree_same hl h1]
      · simp only [Option.bind_some]
        cases hp:allI (p1 t) 0 t
        · rfl
        · have hg:=good_of hl hp
          simp only [if_true,Sum.elim_inl,Bool.true_and]
          rw [iter_all t (p2 t) (.inl (t.length:Int)) (.inr false) (Nat.lt_of_lt_of_le hB hN)]
          · simp only [Option.bind_some,s_l6Sum hN hB,s_AmtOk]
            cases allI (p2 t) 0 t <;> rfl
          · intro k r hy hk
            obtain ⟨n,hn⟩:=climbLoop hN hl hg hy
            simp only [lt_dec hk,cond_true]
            rw [hn]
            simp only [idx_nat,hy,Option.bind_some,wrap1 (Nat.lt_trans hk hB)]
            unfold p2
            cases hlv:r.live
            · rfl
            · simp only [cond_true,Option.bind_some,if_true,Bool.true_and]
              cases (climb t 5 (k:Int) != 0) <;> rfl
          · simp only [ge_dec,cond_false]
      · intro k r hy hk
        simp only [lt_dec hk,cond_true,idx_nat,hy,Option.bind_some,s_AmtOk,s_l6Res,bOr,wrap1 (Nat.lt_trans hk hB)]
        unfold p1
        rw [show DRes.mk false 0 (DAmt.mk 0 0 0)=zRes from rfl]
        cases hin:inR r.parent 0 4
        · cases r.live <;> cases decide (r=zRes) <;> cases amtOk r.bal <;> cases decide ((k:Int) > 0) <;> rfl
        · rw [idx_in hin (by omega) (show (4:Int)<(t.length:Int) by omega)]
          simp only [Option.bind_some]
          cases r.live <;> cases decide (r=zRes) <;> cases amtOk r.bal <;> cases decide ((k:Int) > 0) <;> cases (r.parent==(k:Int)) <;> cases (nth t r.parent).live <;> rfl
      · simp only [ge_dec,cond_false]
    · rfl
  · rfl
end Go.Kx
/- Plain laws: things, arenas, heaps, taps, parts: what is right. No program in sight. -/
namespace Go.Kx
open Go
set_option linter.unusedVariables false
set_option linter.unusedSimpArgs false
set_option maxRecDepth 10000
theorem cond_some {α:Type} (p:Bool) (a b:α):(bif p then some a else some b)=some (bif p then a else b):=by cases p <;> rfl
theorem elim_ite {ρ τ β:Type} (c:Bool) (a:ρ) (r:τ) (f:ρ→Option β) (g:τ→Option β):Sum.elim f g (if c then .inl a else .inr r)=if c then f a else g r:=by cases c <;> rfl
theorem i_isPart (N:Nat) (a:Int):F_i_isPart N a=some (inR a 0 2):=by unfold F_i_isPart;rw [i_in];rfl
theorem i_isSlot (N:Nat) (a:Int):F_i_isSlot N a=some (inR a 0 9):=by unfold F_i_isSlot;rw [i_in];rfl
theorem i_isTime (N:Nat) (a:Int):F_i_isTime N a=some (inR a 0 1000000):=by unfold F_i_isTime;rw [i_in];rfl
theorem i_isHandle (N:Nat) (a:Int):F_i_isHandle N a=some (inR a 0 29999):=by unfold F_i_isHandle;rw [i_in];rfl
theorem s_l8Handle (N:Nat) (a:Int):F_s_l8Handle N a=some (inR a 0 29999):=by unfold F_s_l8Handle;rw [s_in];rfl
theorem s_l8Slot (N:Nat) (a:Int):F_s_l8Slot N a=some (inR a 0 9):=by unfold F_s_l8Slot;rw [s_in];rfl
def msgOk (m:DMsg):Bool:=!(bif (m.src != (-1)) then (!inR m.src 0 29999 || !inR m.n 0 999) else !inR m.n 0 999)
def listsOk (o:DObj):Bool:=o.links.all (fun y=>inR y (-1) 9)&&(o.data.all (fun y=>inR y 0 999)&&(o.queue.all msgOk&&(((o.links.length:Int)==2)&&(((o.data.length:Int)==(bif o.kind==2 then o.pages else 0))&&decide ((o.queue.length:Int)≤(bif o.kind==3 then 2 else 0))))))
theorem i_listsOk {N:Nat} (hN:BIG≤N) {o:DObj} (ho:sz_DObj o<BIG):F_i_listsOk N o=some (listsOk o):=by
  obtain ⟨h1,h2,h3⟩:=szObj ho
  unfold F_i_listsOk listsOk
  rw [iter_all o.links (fun _ y=>inR y (-1) 9) (.inl (o.links.length:Int)) (.inr false) (Nat.lt_of_lt_of_le h1 hN),allI_const,Option.bind_some]
  · cases o.links.all fun y=>inR y (-1) 9
    · rfl
    simp only [if_true,Sum.elim_inl,Bool.true_and]
    rw [iter_all o.data (fun _ y=>inR y 0 999) (.inl (o.data.length:Int)) (.inr false) (Nat.lt_of_lt_of_le h2 hN),allI_const,Option.bind_some]
    · cases o.data.all fun y=>inR y 0 999
      · rfl
      simp only [if_true,Sum.elim_inl,Bool.true_and]
      rw [iter_all o.queue (fun _ y=>msgOk y) (.inl (o.queue.length:Int)) (.inr false) (Nat.lt_of_lt_of_le h3 hN),allI_const,Option.bind_some]
      · cases o.queue.all msgOk
        · rfl
        simp only [if_true,Sum.elim_inl,Bool.true_and,cond_some,Option.bind_some]
        congr 1
        cases ((o.links.length:Int)==2) <;> cases ((o.data.length:Int)==(bif o.kind==2 then o.pages else 0)) <;> simp
      · intro k y hy hk
        simp only [lt_dec hk,cond_true,idx_nat,hy,Option.bind_some,i_in,i_isHandle,bOr,cond_some,wrap1 (Nat.lt_trans hk h3)]
        unfold msgOk
        cases (y.src != (-1)) <;> cases inR y.src 0 29999 <;> cases inR y.n 0 999 <;> rfl
      · simp only [ge_dec,cond_false]
    · intro k y hy hk
      simp only [lt_dec hk,cond_true,idx_nat,hy,Option.bind_some,i_in,wrap1 (Nat.lt_trans hk h2)]
      cases inR y 0 999 <;> rfl
    · simp only [ge_dec,cond_false]
  · intro k y hy hk
    simp only [lt_dec hk,cond_true,idx_nat,hy,Option.bind_some,i_in,wrap1 (Nat.lt_trans hk h1)]
    cases inR y (-1) 9 <;> rfl
  · simp only [ge_dec,cond_false]
def blank (g:Int):DObj:=DObj.mk g 0 0 0 0 0 0 0 0 false [] [] []
def objOk (o:DObj):Bool:=inR o.gen 0 999&&(inR o.kind 0 4&&(bif o.kind==0 then decide (o=blank o.gen) else
  inR o.box (-1) 9&&(inR o.res 0 4&&(inR o.til 0 1000000&&(inR o.pages 0 8&&(listsOk o&&(bif o.kind != 4 then (o.wait==0&&(o.got==0&&o.ran==0)) else
    (o.wait==0 || inR (IntKind.i64.wrap (o.wait - 1)) 0 29999)&&(inR o.got (-1) 999&&inR o.ran 0 1000000))))))))
theorem i_ObjOk {N:Nat} (hN:BIG≤N) {o:DObj} (ho:sz_DObj o<BIG):F_i_ObjOk N o=some (objOk o):=by
  unfold F_i_ObjOk objOk
  simp only [i_in,i_isPlace,i_isTime,i_isHandle,i_listsOk hN ho,i_sameObj hN ho,Option.bind_some,bOr,bAnd,cond_some]
  rw [show DObj.mk o.gen 0 0 0 0 0 0 0 0 false [] [] []=blank o.gen from rfl]
  congr 1
  simp only [Bool.cond_true_left,Bool.cond_false_left,Bool.cond_true_right,Bool.cond_false_right,Bool.not_or,Bool.not_not,Bool.and_assoc]
  cases o.wait==0 <;> rfl
def wOk (o:DObj):Prop:=-9223372036854775808≤o.wait
theorem wait_neg {n:Int} (h:-9223372036854775808≤n) (h0:n<0):inR (IntKind.i64.wrap (n - 1)) 0 29999=false:=by
  rcases Decidable.em (n=-9223372036854775808) with e | e
  · subst e;decide
  · rw [wrap_ok (by omega) (by omega)]
    simp [inR];omega
def waitOk (o:DObj):Bool:=bif o.kind != 4 then (o.wait==0&&(o.got==0&&o.ran==0)) else
    (o.wait==0 || inR (IntKind.i64.wrap (o.wait - 1)) 0 29999)&&(inR o.got (-1) 999&&inR o.ran 0 1000000)
theorem c_wait {o : DObj} (hw : wOk o) (hr : inR o.ran 0 1000000 = true) : (bif o.kind != 4 then bif o.wait != 0 then true else bif o.got != 0 then true else bif o.ran != 0 then true else bif o.kind == 4 then
      bif decide (o.wait < 0) then true else bif decide (o.wait > 0) then !inR (IntKind.i64.wrap (o.wait - 1)) 0 29999 || !inR o.got (-1) 999 else !inR o.got (-1) 999 else false
    else bif o.kind == 4 then bif decide (o.wait < 0) then true else bif decide (o.wait > 0) then !inR (IntKind.i64.wrap (o.wait - 1)) 0 29999 || !inR o.got (-1) 999 else !inR o.got (-1) 999 else false) = !waitOk o := by
  unfold waitOk
  simp only [bne, hr]
  cases o.kind == 4
  · simp only [Bool.not_false, cond_true, cond_false]
    cases o.wait == 0 <;> cases o.got == 0 <;> cases o.ran == 0 <;> rfl
  · simp only [Bool.not_true, cond_true, cond_false]
    rcases Int.lt_trichotomy o.wait 0 with h | h | h
    · have e1 : decide (o.wait < 0) = true := by simpa using h
      have e2 : (o.wait == 0) = false := by simp; omega
      rw [e1, e2, wait_neg hw h]; rfl
    · simp only [h]
      cases inR o.got (-1) 999 <;> rfl
    · have e1 : decide (o.wait < 0) = false := by simp; omega
      have e2 : (o.wait == 0) = false := by simp; omega
      have e3 : decide (o.wait > 0) = true := by simpa using h
      rw [e1, e2, e3]
      cases inR (IntKind.i64.wrap (o.wait - 1)) 0 29999 <;> cases inR o.got (-1) 999 <;> rfl
theorem c_data (o:DObj):(bif (o.data.length:Int) != 0 then bif o.kind != 2 then true else bif (o.data.length:Int) != o.pages then true else bif o.kind==2 then (o.data.length:Int) != o.pages else false
    else bif o.kind==2 then (o.data.length:Int) != o.pages else false)=!((o.data.length:Int)==(bif o.kind==2 then o.pages else 0)):=by
  simp only [bne]
  cases o.kind==2 <;> cases h:((o.data.length:Int)==0) <;> cases h2:((o.data.length:Int)==o.pages) <;> simp [h,h2]
theorem c_queue (o:DObj):(bif decide ((o.queue.length:Int) > 2) then true else bif decide ((o.queue.length:Int) > 0) then o.kind != 3 else false)=!decide ((o.queue.length:Int)≤(bif o.kind==3 then 2 else 0)):=by
  simp only [bne]
  cases o.kind==3
  · simp only [cond_false]
    rcases Nat.lt_trichotomy o.queue.length 0 with h | h | h
    · omega
    · simp [h]
    · rw [decide_eq_true (show (o.queue.length:Int) > 0 by omega),decide_eq_false (show ¬ ((o.queue.length:Int)≤0) by omega)]
      cases decide ((o.queue.length:Int) > 2) <;> rfl
  · simp only [cond_true]
    rcases Nat.lt_or_ge 2 o.queue.length with h | h
    · rw [decide_eq_true (show (o.queue.length:Int) > 2 by omega),decide_eq_false (show ¬ ((o.queue.length:Int)≤2) by omega)];rfl
    · rw [decide_eq_false (show ¬ ((o.queue.length:Int) > 2) by omega),decide_eq_true (show (o.queue.length:Int)≤2 by omega)]
      cases decide ((o.queue.length:Int) > 0) <;> rfl
theorem s_ObjOk {N:Nat} (hN:BIG≤N) {o:DObj} (ho:sz_DObj o<BIG) (hw:wOk o):F_s_ObjOk N o=some (objOk o):=by
  obtain ⟨h1,h2,h3⟩:=szObj ho
  unfold F_s_ObjOk objOk
  rw [s_in,Option.bind_some]
  cases hg:inR o.gen 0 999
  · rfl
  simp only [Bool.not_true,cond_false,Bool.true_and]
  cases hk0:o.kind==0
  · simp only [cond_false,s_in,s_l6Res,Option.bind_some,bOr]
    have hk0':o.kind ≠ 0:=by simpa using hk0
    cases hA:(!inR o.kind 1 4 || (!inR o.box (-1) 9 || (!inR o.res 0 4 || (!inR o.til 0 1000000 || (!inR o.pages 0 8 || ((o.links.length:Int) != 2 || !inR o.ran 0 1000000))))))
    · simp only [Bool.or_eq_false_iff,Bool.not_eq_false',bne_eq_false_iff_eq] at hA
      obtain ⟨a1,a2,a3,a4,a5,a6,a7⟩:=hA
      have a1':inR o.kind 0 4=true:=by rw [inR_iff] at a1 ⊢;omega
      have hl2:o.links.length=2:=by omega
      simp only [cond_false,a1',a2,a3,a4,a5,Bool.true_and]
      rw [iter_all o.links (fun _ y=>inR y (-1) 9) (.inl (2:Int)) (.inr false) (Nat.lt_of_lt_of_le h1 hN),allI_const,Option.bind_some,elim_ite]
      · unfold listsOk
        cases hL:o.links.all fun y=>inR y (-1) 9
        · rfl
        have e6:((o.links.length:Int)==2)=true:=by simp [a6]
        simp only [if_true,Bool.true_and,e6]
        simp only [s_l8Handle,Option.bind_some,cond_some]
        rw [c_wait hw a7,c_data o]
        rw [show (bif o.kind != 4 then (o.wait==0&&(o.got==0&&o.ran==0)) else (o.wait==0 || inR (IntKind.i64.wrap (o.wait - 1)) 0 29999)&&(inR o.got (-1) 999&&inR o.ran 0 1000000))=waitOk o from rfl]
        cases waitOk o
        · simp
        cases ((o.data.length:Int)==(bif o.kind==2 then o.pages else 0))
        · simp
        simp only [Bool.not_true,cond_false,Bool.and_true,Bool.true_and]
        rw [iter_all o.data (fun _ y=>inR y 0 999) (.inl (o.data.length:Int)) (.inr false) (Nat.lt_of_lt_of_le h2 hN),allI_const,Option.bind_some,elim_ite,c_queue o]
        · cases o.data.all fun y=>inR y 0 999
          · rfl
          simp only [if_true,Bool.true_and]
          cases decide ((o.queue.length:Int)≤(bif o.kind==3 then 2 else 0))
          · simp
          simp only [Bool.not_true,cond_false,Bool.and_true]
          rw [iter_all o.queue (fun _ y=>msgOk y) (.inl (o.queue.length:Int)) (.inr false) (Nat.lt_of_lt_of_le h3 hN),allI_const,Option.bind_some,elim_ite]
          · cases o.queue.all msgOk <;> rfl
          · intro k y hy hk
            simp only [lt_dec hk,cond_true,idx_nat,hy,Option.bind_some,wrap1 (Nat.lt_trans hk h3)]
            unfold msgOk
            cases (y.src != (-1)) <;> cases inR y.src 0 29999 <;> cases inR y.n 0 999 <;> rfl
          · simp only [ge_dec,cond_false]
        · intro k y hy hk
          simp only [lt_dec hk,cond_true,idx_nat,hy,Option.bind_some,wrap1 (Nat.lt_trans hk h2)]
          cases inR y 0 999 <;> rfl
        · simp only [ge_dec,cond_false]
      · intro k y hy hk
        have hd:decide ((k:Int)<2)=true:=by simp;omega
        simp only [hd,cond_true,idx_nat,hy,Option.bind_some,s_in,wrap1 (Nat.lt_trans hk h1)]
        cases inR y (-1) 9 <;> rfl
      · simp [hl2]
    · simp only [cond_true]
      congr 1
      symm
      rw [Bool.eq_false_iff]
      intro h
      simp only [listsOk,Bool.and_eq_true,inR_iff,beq_iff_eq] at h
      obtain ⟨b0,b1,b2,b3,b4,⟨_,_,_,b5,_,_⟩,b6⟩:=h
      have q1:inR o.kind 1 4=true:=by rw [inR_iff];omega
      have q2:inR o.box (-1) 9=true:=by rw [inR_iff];omega
      have q3:inR o.res 0 4=true:=by rw [inR_iff];omega
      have q4:inR o.til 0 1000000=true:=by rw [inR_iff];omega
      have q5:inR o.pages 0 8=true:=by rw [inR_iff];omega
      have q6:((o.links.length:Int) != 2)=false:=by simp [b5]
      have q7:inR o.ran 0 1000000=true:=by
        cases h4:o.kind != 4
        · rw [h4] at b6
          simp only [cond_false,Bool.and_eq_true] at b6
          exact b6.2.2
        · rw [h4] at b6
          simp only [cond_true,Bool.and_eq_true,beq_iff_eq] at b6
          rw [b6.2.2];decide
      simp [q1,q2,q3,q4,q5,q6,q7] at hA
  · have hk:o.kind=0:=by simpa using hk0
    simp only [cond_true,bAnd,Option.bind_some]
    congr 1
    rw [Bool.eq_iff_iff]
    obtain ⟨_,_,_,_,_,_,_,_,_,_,_,_,_⟩:=o
    simp only at hk
    subst hk
    simp [blank,inR]
end Go.Kx
/- Plain laws: arenas, heaps, taps, parts: what is right. No program in sight. -/
namespace Go.Kx
open Go
set_option linter.unusedVariables false
set_option linter.unusedSimpArgs false
set_option maxRecDepth 10000
theorem objOk_links {o:DObj} (h:objOk o=true):o.links.length≤2∧∀ y,y ∈ o.links→-1≤y∧y≤9:=by
  unfold objOk at h
  cases hk:o.kind==0
  · simp only [hk,cond_false,Bool.and_eq_true] at h
    obtain ⟨_,_,_,_,_,_,hl,_⟩:=h
    unfold listsOk at hl
    simp only [Bool.and_eq_true,List.all_eq_true,inR_iff,beq_iff_eq] at hl
    exact ⟨by omega,hl.1⟩
  · simp only [hk,cond_true,Bool.and_eq_true,decide_eq_true_eq] at h
    rw [h.2.2];simp [blank]
theorem objOk_box {o:DObj} (h:objOk o=true) (hk:(o.kind != 0)=true):inR o.box (-1) 9=true∧inR o.res 0 4=true∧inR o.til 0 1000000=true∧inR o.pages 0 8=true:=by
  unfold objOk at h
  have hk:(o.kind==0)=false:=by simpa [bne] using hk
  simp only [hk,cond_false,Bool.and_eq_true] at h
  exact ⟨h.2.2.1,h.2.2.2.1,h.2.2.2.2.1,h.2.2.2.2.2.1⟩
def freeAt (l:List DObj) (i:Int):Bool:=(nth l i).kind==0
def linksP (l:List DObj) (o:DObj):Bool:=o.links.all fun y=>!(decide (y ≥ 0)&&freeAt l y)
def arenaP (l:List DObj) (k:Nat) (o:DObj):Bool:=(objOk o&&!(decide ((k:Int) > 0)&&(o.kind != 0&&(decide (o.box ≥ 0)&&freeAt l o.box))))&&linksP l o
def headBad (l:List DObj):Bool:=((nth l 0).kind != 1) || (((nth l 0).box != (-1)) || ((nth l 0).til != 1000000))
def arenaOk (l:List DObj):Bool:=!((l.length:Int) != 10)&&(!headBad l&&allI (arenaP l) 0 l)
theorem linksLoop {N:Nat} (hN:BIG≤N) {l:List DObj} (hl:l.length=10) {o:DObj} (ho:o.links.length≤2) (hr:∀ y,y ∈ o.links→-1≤y∧y≤9) :
    iter (fun (s75:Int)=>(bif (decide (s75<(o.links.length:Int))) then ((idx o.links s75).bind fun y96=>(bif (decide (y96 ≥ 0)) then ((idx l y96).bind fun y108=>some (y108.kind==0)) else (some false):Option Bool).bind fun j105=>bif j105 then (some (.inr (.inr false))) else (some (.inl (IntKind.i64.wrap (s75+1))))) else (some (.inr (.inl s75))):Option (Int⊕(Int⊕Bool)))) N 0=some (if linksP l o then .inl (o.links.length:Int) else .inr false):=by
  have hB:o.links.length<BIG:=Nat.lt_of_le_of_lt ho (by decide)
  rw [iter_all o.links (fun _ y=>!(decide (y ≥ 0)&&freeAt l y)) (.inl (o.links.length:Int)) (.inr false) (Nat.lt_of_lt_of_le hB hN),allI_const]
  · rfl
  · intro k y hy hk
    have hm:=hr y (List.mem_of_getElem? hy)
    simp only [lt_dec hk,cond_true,idx_nat,hy,Option.bind_some,wrap1 (Nat.lt_trans hk hB)]
    cases h0:decide (y ≥ 0)
    · rfl
    · have h0:y ≥ 0:=by simpa using h0
      simp only [cond_true,idx_ok (l:=l) (i:=y) h0 (by omega),Option.bind_some,Bool.true_and]
      unfold freeAt
      cases (nth l y).kind==0 <;> rfl
  · simp only [ge_dec,cond_false]
theorem boxCond {l:List DObj} (hl:l.length=10) {o:DObj} (ho:objOk o=true):(bif (decide (o.box ≥ 0)) then ((idx l o.box).bind fun y58=>some (y58.kind==0)) else (some false):Option Bool)=some (decide (o.box ≥ 0)&&freeAt l o.box)∨(o.kind != 0)=false:=by
  cases hk:o.kind != 0
  · exact .inr rfl
  · left
    obtain ⟨hb,_⟩:=objOk_box ho hk
    rw [inR_iff] at hb
    cases h0:decide (o.box ≥ 0)
    · rfl
    · have h0:o.box ≥ 0:=by simpa using h0
      simp only [cond_true,idx_ok (l:=l) (i:=o.box) h0 (by omega),Option.bind_some,Bool.true_and];rfl
theorem i_ArenaOk {N:Nat} (hN:BIG≤N) {l:List DObj} (hb:szL sz_DObj l<BIG):F_i_ArenaOk N l=some (arenaOk l):=by
  have hlB:=szL_len hb
  unfold F_i_ArenaOk arenaOk
  cases h10:((l.length:Int) != 10)
  · have hl:l.length=10:=lenB (n:=10) h10
    rw [idx_ok (l:=l) (i:=0) (by omega) (by omega)]
    simp only [cond_false,Option.bind_some,bOr,Bool.not_false,Bool.true_and]
    rw [show ((nth l 0).kind != 1 || ((nth l 0).box != (-1) || (nth l 0).til != 1000000))=headBad l from rfl]
    cases headBad l
    · simp only [cond_false,Bool.not_false,Bool.true_and]
      rw [iter_all l (arenaP l) (.inl (l.length:Int)) (.inr false) (Nat.lt_of_lt_of_le hlB hN)]
      · simp only [Option.bind_some];cases allI (arenaP l) 0 l <;> rfl
      · intro k y hy hk
        have hm:=List.mem_of_getElem? hy
        simp only [lt_dec hk,cond_true,idx_nat,hy,Option.bind_some,i_ObjOk hN (szL_mem hb hm),wrap1 (Nat.lt_trans hk hlB)]
        unfold arenaP
        cases ho:objOk y
        · rfl
        · obtain ⟨q1,q2⟩:=objOk_links ho
          rw [linksLoop hN hl q1 q2]
          rcases boxCond hl ho with q | q
          · rw [q]
            simp only [Bool.not_true,cond_false,Bool.true_and,bAnd,Option.bind_some]
            cases (decide ((k:Int) > 0)&&(y.kind != 0&&(decide (y.box ≥ 0)&&freeAt l y.box))) <;> cases linksP l y <;> rfl
          · simp only [q,Bool.not_true,cond_false,Bool.true_and,Bool.false_and,Bool.and_false,bAnd,Option.bind_some]
            cases linksP l y <;> rfl
      · simp only [ge_dec,cond_false]
    · rfl
  · rfl
def wA (l:List DObj):Prop:=∀ o,o ∈ l→wOk o
theorem s_ArenaOk {N:Nat} (hN:BIG≤N) {l:List DObj} (hb:szL sz_DObj l<BIG) (hw:wA l):F_s_ArenaOk N l=some (arenaOk l):=by
  have hlB:=szL_len hb
  unfold F_s_ArenaOk arenaOk
  cases h10:((l.length:Int) != 10)
  · have hl:l.length=10:=lenB (n:=10) h10
    rw [idx_ok (l:=l) (i:=0) (by omega) (by omega)]
    simp only [cond_false,Option.bind_some,bOr,Bool.not_false,Bool.true_and]
    rw [show ((nth l 0).kind != 1 || ((nth l 0).box != (-1) || (nth l 0).til != 1000000))=headBad l from rfl]
    cases headBad l
    · simp only [cond_false,Bool.not_false,Bool.true_and]
      rw [iter_all l (arenaP l) (.inl (l.length:Int)) (.inr false) (Nat.lt_of_lt_of_le hlB hN)]
      · simp only [Option.bind_some];cases allI (arenaP l) 0 l <;> rfl
      · intro k y hy hk
        have hm:=List.mem_of_getElem? hy
        simp only [lt_dec hk,cond_true,idx_nat,hy,Option.bind_some,s_ObjOk hN (szL_mem hb hm) (hw y hm),wrap1 (Nat.lt_trans hk hlB)]
        unfold arenaP
        cases ho:objOk y
        · rfl
        · obtain ⟨q1,q2⟩:=objOk_links ho
          rw [linksLoop hN hl q1 q2]
          rcases boxCond hl ho with q | q
          · rw [q]
            simp only [Bool.not_true,cond_false,Bool.true_and,bAnd,Option.bind_some]
            cases y.kind != 0 <;> cases decide ((k:Int) > 0) <;> cases (decide (y.box ≥ 0)&&freeAt l y.box) <;> cases linksP l y <;> rfl
          · simp only [q,Bool.not_true,cond_false,Bool.true_and,Bool.false_and,Bool.and_false,bAnd,Option.bind_some]
            cases linksP l y <;> rfl
      · simp only [ge_dec,cond_false]
    · rfl
  · rfl
theorem s_l4Has {N:Nat} (hN:BIG≤N) {l:List Int} {x:Int} (hb:l.length<BIG):F_s_l4Has N l x=some (l.contains x):=by
  unfold F_s_l4Has
  rw [iter_all l (fun _ y=>!(y==x)) (.inl (l.length:Int)) (.inr true) (Nat.lt_of_lt_of_le hb hN),allI_const]
  · have:(l.all fun y=>!(y==x))=!l.contains x:=by
      induction l with
      | nil=>rfl
      | cons y l ih =>
        have ih:=ih (Nat.lt_trans (Nat.lt_succ_self _) hb)
        rw [List.all_cons,ih,List.contains_cons,Bool.beq_comm (a:=x)]
        cases (y==x) <;> rfl
    rw [this,Option.bind_some]
    cases l.contains x <;> rfl
  · intro k y hy hk
    simp only [lt_dec hk,cond_true,idx_nat,hy,Option.bind_some,wrap1 (Nat.lt_trans hk hb)]
    cases (y==x) <;> rfl
  · simp only [ge_dec,cond_false]
def greyP (g:List Int) (k:Nat) (y:Int):Bool:=inR y 0 9&&!(g.take k).contains y
def phaseOk (g:DGc):Bool:=((g.phase==0)&&(g.pos==0)) || ((g.phase==1)&&(inR g.pos 0 9&&((g.grey.length:Int)==0)))
def heapOk (h:DHeap):Bool:=arenaOk h.arena&&(phaseOk h.gc&&(inR h.gc.round 0 1000000&&allI (greyP h.gc.grey) 0 h.gc.grey))
theorem take_lt {α:Type} {l:List α} {k:Nat} (h:l.length<BIG):(l.take k).length<BIG:=Nat.lt_of_le_of_lt (by simp;omega) h
theorem i_HeapOk {N:Nat} (hN:BIG≤N) {h:DHeap} (h1:szL sz_DObj h.arena<BIG) (h2:h.gc.grey.length<BIG):F_i_HeapOk N h=some (heapOk h):=by
  unfold F_i_HeapOk heapOk
  rw [iter_all h.gc.grey (greyP h.gc.grey) (.inl (h.gc.grey.length:Int)) (.inr false) (Nat.lt_of_lt_of_le h2 hN)]
  · simp only [Option.bind_some,i_isSlot,i_isTime,i_ArenaOk hN h1,bAnd]
    cases allI (greyP h.gc.grey) 0 h.gc.grey
    · simp
    · simp only [if_true,Sum.elim_inl,Bool.and_true]
      unfold phaseOk
      cases arenaOk h.arena
      · rfl
      cases ((h.gc.phase==0)&&(h.gc.pos==0))
      · cases ((h.gc.phase==1)&&(inR h.gc.pos 0 9&&((h.gc.grey.length:Int)==0))) <;> rfl
      · rfl
  · intro k y hy hk
    simp only [lt_dec hk,cond_true,idx_nat,hy,Option.bind_some,i_isSlot,sub_take (Nat.le_of_lt hk),z_Contains hN (take_lt h2),wrap1 (Nat.lt_trans hk h2)]
    unfold greyP
    cases inR y 0 9 <;> cases (h.gc.grey.take k).contains y <;> rfl
  · simp only [ge_dec,cond_false]
theorem pos_len (n:Nat):decide ((n:Int) > 0)=!((n:Int)==0):=by
  cases n with
  | zero=>rfl
  | succ n=>rw [decide_eq_true (by omega)];simp;omega
theorem s_HeapOk {N:Nat} (hN:BIG≤N) {h:DHeap} (h1:szL sz_DObj h.arena<BIG) (h2:h.gc.grey.length<BIG) (hw:wA h.arena):F_s_HeapOk N h=some (heapOk h):=by
  unfold F_s_HeapOk heapOk
  rw [iter_all h.gc.grey (greyP h.gc.grey) (.inl (h.gc.grey.length:Int)) (.inr false) (Nat.lt_of_lt_of_le h2 hN)]
  · simp only [Option.bind_some,s_l8Slot,s_in,s_ArenaOk hN h1 hw,bOr,pos_len]
    cases arenaOk h.arena
    · rfl
    cases inR h.gc.round 0 1000000
    · simp
    unfold phaseOk
    by_cases q0:h.gc.phase=0
    · have e0:(h.gc.phase==0)=true:=by simp [q0]
      have e1:(h.gc.phase==1)=false:=by simp [q0]
      have e2:inR h.gc.phase 0 1=true:=by rw [q0];decide
      rw [e0,e1,e2]
      simp only [bne]
      cases h.gc.pos==0
      · rfl
      · cases allI (greyP h.gc.grey) 0 h.gc.grey <;> rfl
    by_cases q1:h.gc.phase=1
    · have e0:(h.gc.phase==0)=false:=by simp [q1]
      have e1:(h.gc.phase==1)=true:=by simp [q1]
      have e2:inR h.gc.phase 0 1=true:=by rw [q1];decide
      rw [e0,e1,e2]
      cases inR h.gc.pos 0 9
      · rfl
      cases ((h.gc.grey.length:Int)==0)
      · rfl
      · cases allI (greyP h.gc.grey) 0 h.gc.grey <;> rfl
    · have e0:(h.gc.phase==0)=false:=by simp [q0]
      have e1:(h.gc.phase==1)=false:=by simp [q1]
      have e2:inR h.gc.phase 0 1=false:=by
        rw [Bool.eq_false_iff,Ne,inR_iff];omega
      rw [e0,e1,e2];rfl
  · intro k y hy hk
    simp only [lt_dec hk,cond_true,idx_nat,hy,Option.bind_some,s_l8Slot,sub_take (Nat.le_of_lt hk),s_l4Has hN (take_lt h2),wrap1 (Nat.lt_trans hk h2)]
    unfold greyP
    cases inR y 0 9 <;> cases (h.gc.grey.take k).contains y <;> rfl
  · simp only [ge_dec,cond_false]
def tapOk (t:DTap):Bool:=(inR t.res 0 4&&(inR t.toPart 0 2&&(inR t.toRes 0 4&&inR t.which 0 2)))&&(((t.kind==1)&&inR t.rate 0 1000) || ((t.kind==2)&&inR t.rate 0 100))
theorem i_TapOk (N:Nat) (t:DTap):F_i_TapOk N t=some (tapOk t):=by
  unfold F_i_TapOk tapOk
  simp only [i_isPlace,i_isPart,i_in,Option.bind_some,bOr,bAnd]
  by_cases q:t.kind=1
  · have e1:(t.kind==1)=true:=by simp [q]
    have e2:(t.kind==2)=false:=by simp [q]
    rw [e1,e2]
    cases inR t.res 0 4 <;> cases inR t.toRes 0 4 <;> cases inR t.toPart 0 2 <;> cases inR t.which 0 2 <;> cases inR t.rate 0 1000 <;> rfl
  · have e1:(t.kind==1)=false:=by simp [q]
    rw [e1]
    cases inR t.res 0 4 <;> cases inR t.toRes 0 4 <;> cases inR t.toPart 0 2 <;> cases inR t.which 0 2 <;> cases (t.kind==2) <;> cases inR t.rate 0 100 <;> rfl
theorem s_TapOk (N:Nat) (t:DTap):F_s_TapOk N t=some (tapOk t):=by
  unfold F_s_TapOk tapOk
  simp only [s_l6Res,s_in,Option.bind_some,bOr,bAnd]
  by_cases q:t.kind=1
  · have e1:(t.kind==1)=true:=by simp [q]
    have e2:(t.kind==2)=false:=by simp [q]
    rw [e1,e2]
    cases inR t.res 0 4 <;> cases inR t.toPart 0 2 <;> cases inR t.toRes 0 4 <;> cases inR t.which 0 2 <;> cases inR t.rate 0 1000 <;> rfl
  · have e1:(t.kind==1)=false:=by simp [q]
    rw [e1]
    cases inR t.res 0 4 <;> cases inR t.toPart 0 2 <;> cases inR t.toRes 0 4 <;> cases inR t.which 0 2 <;> cases (t.kind==2) <;> cases inR t.rate 0 100 <;> rfl
def restOk (p:DPart):Bool:=inR p.next 0 9&&(inR p.want 0 10&&(amtOk p.spent&&(inR p.press 0 1000000&&inR p.lost 0 1000000)))
def partOk (p:DPart):Bool:=labelOk p.label&&(ownOk p.own&&(treeOk p.tree&&(heapOk p.heap&&(!decide ((p.taps.length:Int) > 3)&&(p.taps.all tapOk&&restOk p)))))
theorem i_PartOk {N:Nat} (hN:BIG≤N) {p:DPart} (h:sz_DPart p<BIG):F_i_PartOk N p=some (partOk p):=by
  obtain ⟨h1,h2,h3,h4,h5,h6⟩:=szPart h
  unfold F_i_PartOk partOk
  rw [iter_all p.taps (fun _ t=>tapOk t) (.inl (p.taps.length:Int)) (.inr false) (Nat.lt_of_lt_of_le h6 hN),allI_const]
  · simp only [Option.bind_some,i_LabelOk hN h1,i_OwnOk hN h2,i_TreeOk hN,i_HeapOk hN h4 h5,i_isSlot,i_in,i_AmtOk,i_isTime,bOr,bAnd]
    rw [show (inR p.next 0 9&&(inR p.want 0 10&&(amtOk p.spent&&(inR p.press 0 1000000&&inR p.lost 0 1000000))))=restOk p from rfl]
    cases p.taps.all tapOk
    · simp
    · simp only [if_true,Sum.elim_inl,Bool.true_and]
      cases labelOk p.label <;> cases ownOk p.own <;> cases treeOk p.tree <;> cases heapOk p.heap <;> cases decide ((p.taps.length:Int) > 3) <;> rfl
  · intro k y hy hk
    simp only [lt_dec hk,cond_true,idx_nat,hy,Option.bind_some,i_TapOk,wrap1 (Nat.lt_trans hk h6)]
    cases tapOk y <;> rfl
  · simp only [ge_dec,cond_false]
def wP (p:DPart):Prop:=wA p.heap.arena
theorem s_PartOk {N:Nat} (hN:BIG≤N) {p:DPart} (h:sz_DPart p<BIG) (hw:wP p):F_s_PartOk N p=some (partOk p):=by
  obtain ⟨h1,h2,h3,h4,h5,h6⟩:=szPart h
  unfold F_s_PartOk partOk
  rw [iter_all p.taps (fun _ t=>tapOk t) (.inl (p.taps.length:Int)) (.inr false) (Nat.lt_of_lt_of_le h6 hN),allI_const]
  · simp only [Option.bind_some,s_LabelOk hN h1,s_OwnOk hN h2,s_TreeOk hN,s_HeapOk hN h4 h5 hw,s_l8Slot,s_in,s_AmtOk,bOr,bAnd]
    unfold restOk
    cases labelOk p.label
    · rfl
    cases ownOk p.own
    · rfl
    cases treeOk p.tree
    · rfl
    cases heapOk p.heap
    · rfl
    cases decide ((p.taps.length:Int) > 3)
    · simp only [Bool.not_true,Bool.not_false,Bool.false_or,Bool.true_and]
      cases inR p.next 0 9 <;> cases inR p.want 0 10 <;> cases amtOk p.spent <;> cases inR p.press 0 1000000 <;> cases inR p.lost 0 1000000 <;> cases p.taps.all tapOk <;> rfl
    · rfl
  · intro k y hy hk
    simp only [lt_dec hk,cond_true,idx_nat,hy,Option.bind_some,s_TapOk,wrap1 (Nat.lt_trans hk h6)]
    cases tapOk y <;> rfl
  · simp only [ge_dec,cond_false]
end Go.Kx
