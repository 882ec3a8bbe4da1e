/- Plain laws: ranges, amounts, labels, owned categories, what is started. No program in sight. -/
import Derived.Test.YtkgkknholfmgiaaGreatHa
namespace Go.Kx
open Go
set_option linter.unusedVariables false
set_option linter.unusedSimpArgs false
set_option maxRecDepth 10000
theorem bAnd (p q:Bool):(bif p then some q else some false)=some (p&&q):=by cases p <;> rfl
theorem bOr (p q:Bool):(bif p then some true else some q)=some (p || q):=by cases p <;> rfl
def inR (a b c:Int):Bool:=decide (b≤a)&&decide (a≤c)
theorem inR_iff {a b c:Int}:inR a b c=true ↔ b≤a∧a≤c:=by simp [inR]
theorem s_in (N:Nat) (a b c:Int):F_s_l1In N a b c=some (inR a b c):=bAnd _ _
theorem i_in (N:Nat) (a b c:Int):F_i_within N a b c=some (inR a b c):=bAnd _ _
def okA (n:Int):Bool:=inR n 0 1000000
theorem s_5 (N:Nat) (a:Int):F_s_l5In N a=some (okA a):=by unfold F_s_l5In;rw [s_in];rfl
theorem i_isAmount (N:Nat) (a:Int):F_i_isAmount N a=some (okA a):=by unfold F_i_isAmount;rw [i_in];rfl
def amtOk (a:DAmt):Bool:=okA a.pages&&(okA a.rent&&okA a.cpu)
theorem s_AmtOk (N:Nat) (a:DAmt):F_s_AmtOk N a=some (amtOk a):=by unfold F_s_AmtOk;simp only [s_5,Option.bind_some,bAnd];rfl
theorem i_AmtOk (N:Nat) (a:DAmt):F_i_AmtOk N a=some (amtOk a):=by unfold F_i_AmtOk;simp only [i_isAmount,Option.bind_some,bAnd];rfl
def amtSum (a b:DAmt):DAmt:=DAmt.mk (IntKind.i64.wrap (a.pages+b.pages)) (IntKind.i64.wrap (a.rent+b.rent)) (IntKind.i64.wrap (a.cpu+b.cpu))
def amtAdd (a b:DAmt):DAmt×Bool:=if amtOk a&&amtOk b&&amtOk (amtSum a b) then (amtSum a b,true) else (a,false)
theorem s_AmtAdd (N:Nat) (a b:DAmt):F_s_AmtAdd N a b=some (amtAdd a b):=by
  unfold F_s_AmtAdd amtAdd
  simp only [s_AmtOk,Option.bind_some,bOr]
  show (bif (!amtOk a || !amtOk b) then some (a,false) else (bif !amtOk (amtSum a b) then some (a,false) else some (amtSum a b,true)))=_
  cases amtOk a <;> cases amtOk b <;> cases amtOk (amtSum a b) <;> rfl
theorem i_sumOf (N:Nat) (a b:DAmt):F_i_sumOf N a b=some (amtSum a b):=rfl
def labelOk (l:DLabel):Bool:=((l.levels.length:Int)==4)&&l.levels.all fun y=>inR y 0 3
theorem s_LabelOk {N:Nat} (hN:BIG≤N) {l:DLabel} (hb:l.levels.length<BIG):F_s_LabelOk N l=some (labelOk l):=by
  unfold F_s_LabelOk labelOk
  rw [iter_all l.levels (fun _ y=>inR y 0 3) (.inl (l.levels.length:Int)) (.inr false) (Nat.lt_of_lt_of_le hb hN),allI_const]
  · cases h:((l.levels.length:Int)==4)
    · have:((l.levels.length:Int) != 4)=true:=by simp [bne,h]
      simp [this]
    · have:((l.levels.length:Int) != 4)=false:=by simp [bne,h]
      simp only [this,cond_false,Option.bind_some,Bool.true_and]
      cases l.levels.all fun y=>inR y 0 3 <;> rfl
  · intro k y hy hk
    simp only [lt_dec hk,cond_true,idx_nat,hy,Option.bind_some,s_in,wrap1 (Nat.lt_trans hk hb)]
    cases inR y 0 3 <;> rfl
  · simp only [ge_dec,cond_false]
theorem i_LabelOk {N:Nat} (hN:BIG≤N) {l:DLabel} (hb:l.levels.length<BIG):F_i_LabelOk N l=some (labelOk l):=by
  unfold F_i_LabelOk labelOk
  rw [iter_all l.levels (fun _ y=>inR y 0 3) (.inl (l.levels.length:Int)) (.inr false) (Nat.lt_of_lt_of_le hb hN),allI_const]
  · simp only [Option.bind_some]
    cases l.levels.all fun y=>inR y 0 3 <;> simp
  · intro k y hy hk
    simp only [lt_dec hk,cond_true,idx_nat,hy,Option.bind_some,i_in,wrap1 (Nat.lt_trans hk hb)]
    cases inR y 0 3 <;> rfl
  · simp only [ge_dec,cond_false]
def pOwn (l:List Int) (k:Nat) (y:Int):Bool:=inR y 0 3&&match k with
  | 0=>true
  | j+1=>!decide (y≤(l[j]?).getD 0)
def ownOk (l:List Int):Bool:=allI (pOwn l) 0 l
theorem ownStep {l:List Int} {k:Nat} {y:Int} (hy:l[k]?=some y) (hk:k<l.length) (hb:l.length<BIG) {N:Nat} :
    (bif (!(inR y 0 3)) then (some true) else (bif (decide ((k:Int) > 0)) then ((idx l (IntKind.i64.wrap ((k:Int) - 1))).bind fun y18=>some (decide (y≤y18))) else (some false)):Option Bool)=some (!pOwn l k y):=by
  have hB:l.length<16777216:=hb
  unfold pOwn
  cases k with
  | zero =>
    have:decide (((0:Nat):Int) > 0)=false:=by decide
    simp only [this,cond_false]
    cases inR y 0 3 <;> rfl
  | succ j =>
    have:decide (((j+1:Nat):Int) > 0)=true:=by simp
    have e:IntKind.i64.wrap (((j+1:Nat):Int) - 1)=(j:Int):=by rw [wrap_ok (by omega) (by omega)];omega
    have hz:l[j]?=some (l[j]'(by omega)):=List.getElem?_eq_getElem _
    simp only [this,cond_true,e,idx_nat,hz,Option.bind_some,Option.getD_some]
    cases inR y 0 3 <;> simp
theorem s_OwnOk {N:Nat} (hN:BIG≤N) {l:List Int} (hb:l.length<BIG):F_s_OwnOk N l=some (ownOk l):=by
  unfold F_s_OwnOk ownOk
  rw [iter_all l (pOwn l) (.inl (l.length:Int)) (.inr false) (Nat.lt_of_lt_of_le hb hN)]
  · simp only [Option.bind_some]
    cases allI (pOwn l) 0 l <;> rfl
  · intro k y hy hk
    simp only [lt_dec hk,cond_true,idx_nat,hy,Option.bind_some,s_in,wrap1 (Nat.lt_trans hk hb)]
    rw [ownStep hy hk hb (N:=N)]
    cases pOwn l k y <;> rfl
  · simp only [ge_dec,cond_false]
theorem i_OwnOk {N:Nat} (hN:BIG≤N) {l:List Int} (hb:l.length<BIG):F_i_OwnOk N l=some (ownOk l):=by
  unfold F_i_OwnOk ownOk
  rw [iter_all l (pOwn l) (.inl (l.length:Int)) (.inr false) (Nat.lt_of_lt_of_le hb hN)]
  · simp only [Option.bind_some]
    cases allI (pOwn l) 0 l <;> rfl
  · intro k y hy hk
    simp only [lt_dec hk,cond_true,idx_nat,hy,Option.bind_some,i_in,wrap1 (Nat.lt_trans hk hb),ge_iff_le]
    rw [ownStep hy hk hb (N:=N)]
    cases pOwn l k y <;> rfl
  · simp only [ge_dec,cond_false]
theorem z_Index {N:Nat} (hN:BIG≤N) {l:List Int} {x:Int} (hb:l.length<BIG):∃ r,F_z_Index_int N l x=some r∧decide (r ≥ 0)=l.contains x:=by
  unfold F_z_Index_int
  have hB:l.length<16777216:=hb
  rw [show (0:Int)=(fun (k:Nat) (_:Unit)=>(k:Int)) 0 () from rfl,iter_list l (fun k (_:Unit)=>(k:Int)) (fun k _ y=>if x==y then .inr (.inr (k:Int)) else .inl ()) (fun _=>.inl (l.length:Int)) (fun _ _=>True) ?_ ?_ (Nat.lt_of_lt_of_le hb hN) trivial]
  · simp only [Option.bind_some]
    have key:∀ (m:List Int) (k:Nat), ∃ r,Sum.elim (fun _=>some (-1)) (fun r16=>some r16) (runL (ρ:=Int⊕Int) (fun (k:Nat) (_:Unit) y=>if x==y then .inr (.inr (k:Int)) else .inl ()) (fun _=>.inl (l.length:Int)) k () m)=some r∧decide (r ≥ 0)=m.contains x:=by
      intro m
      induction m with
      | nil=>intro k;exact ⟨-1,rfl,rfl⟩
      | cons y m ih =>
        intro k
        cases hxy:(x==y)
        · obtain ⟨r,h1,h2⟩:=ih (k+1)
          have hne:x ≠ y:=by simpa using hxy
          refine ⟨r,by simpa [runL,hxy] using h1,by rw [h2];simp [List.contains_cons,hne]⟩
        · have he:x=y:=by simpa using hxy
          exact ⟨k,by simp [runL,hxy],by simp [List.contains_cons,he]⟩
    exact key l 0
  · intro k _ y hy hk _
    simp only [lt_dec hk,cond_true,idx_nat,hy,Option.bind_some,wrap1 (Nat.lt_trans hk hb)]
    cases (x==y) <;> simp
  · intro _ _
    simp only [ge_dec,cond_false]
theorem z_Contains {N:Nat} (hN:BIG≤N) {l:List Int} {x:Int} (hb:l.length<BIG):F_z_Contains_int N l x=some (l.contains x):=by
  unfold F_z_Contains_int
  obtain ⟨r,h1,h2⟩:=z_Index hN hb (x:=x)
  rw [h1,Option.bind_some,h2]
end Go.Kx
/- Plain laws of what is told alike: labels, things, parts, worlds. No program in sight. -/
namespace Go.Kx
open Go
set_option linter.unusedVariables false
set_option linter.unusedSimpArgs false
set_option maxRecDepth 10000
theorem s_l13Ints {N:Nat} (hN:BIG≤N) {a b:List Int} (ha:a.length<BIG):F_s_l13Ints N a b=some (decide (a=b)):=eqLoopB a b (· != ·) (by intro y z;by_cases h:y=z <;> simp [h]) ha hN
theorem z_Equal_int {N:Nat} (hN:BIG≤N) {a b:List Int} (ha:a.length<BIG):F_z_Equal_int N a b=some (decide (a=b)):=eqLoopB a b (· != ·) (by intro y z;by_cases h:y=z <;> simp [h]) ha hN
theorem z_Equal_Msg {N:Nat} (hN:BIG≤N) {a b:List DMsg} (ha:a.length<BIG):F_z_Equal_Msg N a b=some (decide (a=b)):=eqLoopB a b (fun y z=>!decide (y=z)) (fun _ _=>rfl) ha hN
theorem dlabel_eq (a b:DLabel):decide (a.levels=b.levels)=decide (a=b):=by cases a;cases b;simp
theorem s_SameLabel {N:Nat} (hN:BIG≤N) {a b:DLabel} (ha:a.levels.length<BIG):F_s_SameLabel N a b=some (decide (a=b)):=by
  rw [← dlabel_eq]
  exact eqLoopB a.levels b.levels (· != ·) (by intro y z;by_cases h:y=z <;> simp [h]) ha hN
theorem szObj {o:DObj} (h:sz_DObj o<BIG):o.links.length<BIG∧o.data.length<BIG∧o.queue.length<BIG:=by unfold sz_DObj at h;omega
theorem i_sameObj {N:Nat} (hN:BIG≤N) {a b:DObj} (ha:sz_DObj a<BIG):F_i_sameObj N a b=some (decide (a=b)):=by
  obtain ⟨h1,h2,h3⟩:=szObj ha
  unfold F_i_sameObj
  simp only [z_Equal_int hN h1,z_Equal_int hN h2,z_Equal_Msg hN h3,Option.bind_some,bAnd]
  congr 1
  rw [Bool.eq_iff_iff]
  cases a;cases b
  simp [DObj.mk.injEq]
theorem s_l8Same {N:Nat} (hN:BIG≤N) {a b:DObj} (ha:sz_DObj a<BIG):F_s_l8Same N a b=some (decide (a=b)):=by
  obtain ⟨h1,h2,h3⟩:=szObj ha
  unfold F_s_l8Same
  simp only [bOr,Option.bind_some]
  cases hj:(a.gen != b.gen || (a.kind != b.kind || (a.box != b.box || (a.res != b.res || (a.til != b.til || (a.pages != b.pages || (a.wait != b.wait || (a.got != b.got || (a.ran != b.ran || (!(a.mark==b.mark) || ((a.links.length:Int) != (b.links.length:Int) || ((a.data.length:Int) != (b.data.length:Int) || ((a.queue.length:Int) != (b.queue.length:Int))))))))))))))
  · simp only [Bool.or_eq_false_iff,bne_eq_false_iff_eq,Bool.not_eq_false',beq_iff_eq] at hj
    obtain ⟨e1,e2,e3,e4,e5,e6,e7,e8,e9,e10,l1,l2,l3⟩:=hj
    simp only [cond_false]
    rw [eqIter a.links b.links (by omega) (.inl (a.links.length:Int)) (.inr false) (Nat.lt_of_lt_of_le h1 hN),Option.bind_some,
      eqIter a.data b.data (by omega) (.inl (a.data.length:Int)) (.inr false) (Nat.lt_of_lt_of_le h2 hN),Option.bind_some,
      eqIter a.queue b.queue (by omega) (.inl (a.queue.length:Int)) (.inr false) (Nat.lt_of_lt_of_le h3 hN),Option.bind_some]
    · have:decide (a=b)=(decide (a.links=b.links)&&(decide (a.data=b.data)&&decide (a.queue=b.queue))):=by
        rw [Bool.eq_iff_iff]
        cases a;cases b
        simp_all [DObj.mk.injEq]
      rw [this]
      by_cases q1:a.links=b.links <;> by_cases q2:a.data=b.data <;> by_cases q3:a.queue=b.queue <;> simp [q1,q2,q3]
    · intro k y z hy hz hk
      simp only [lt_dec hk,cond_true,idx_nat,hy,hz,Option.bind_some,wrap1 (Nat.lt_trans hk h3)]
      by_cases h:y=z <;> simp [h]
    · simp only [ge_dec,cond_false]
    · intro k y z hy hz hk
      simp only [lt_dec hk,cond_true,idx_nat,hy,hz,Option.bind_some,bne_dec,wrap1 (Nat.lt_trans hk h2)]
      by_cases h:y=z <;> simp [h]
    · simp only [ge_dec,cond_false]
    · intro k y z hy hz hk
      simp only [lt_dec hk,cond_true,idx_nat,hy,hz,Option.bind_some,bne_dec,wrap1 (Nat.lt_trans hk h1)]
      by_cases h:y=z <;> simp [h]
    · simp only [ge_dec,cond_false]
  · have:¬ a=b:=by
      rintro rfl
      simp at hj
    simp [this]
theorem s_SameArena {N:Nat} (hN:BIG≤N) {a b:List DObj} (ha:szL sz_DObj a<BIG):F_s_SameArena N a b=some (decide (a=b)):=eqLoopD a b (F_s_l8Same N) (fun y z hy _=>s_l8Same hN (szL_mem ha hy)) (szL_len ha) hN
theorem szPart {p:DPart} (h:sz_DPart p<BIG):p.label.levels.length<BIG∧p.own.length<BIG∧p.tree.length<BIG∧szL sz_DObj p.heap.arena<BIG∧p.heap.gc.grey.length<BIG∧p.taps.length<BIG:=by
  unfold sz_DPart sz_DHeap sz_DGc sz_DLabel at h;omega
theorem s_SamePart {N:Nat} (hN:BIG≤N) {a b:DPart} (ha:sz_DPart a<BIG):F_s_SamePart N a b=some (decide (a=b)):=by
  obtain ⟨h1,h2,h3,h4,h5,h6⟩:=szPart ha
  unfold F_s_SamePart
  simp only [s_SameLabel hN h1,s_l13Ints hN h2,s_SameArena hN h4,s_l13Ints hN h5,Option.bind_some,bOr,bAnd]
  cases hj:(!decide (a.label=b.label) || (!decide (a.own=b.own) || ((a.tree.length:Int) != (b.tree.length:Int) || ((a.taps.length:Int) != (b.taps.length:Int) || (a.next != b.next || (a.want != b.want || (!decide (a.spent=b.spent) || (a.press != b.press || a.lost != b.lost))))))))
  · simp only [Bool.or_eq_false_iff,bne_eq_false_iff_eq,Bool.not_eq_false',decide_eq_true_eq] at hj
    obtain ⟨e1,e2,l1,l2,e3,e4,e5,e6,e7⟩:=hj
    simp only [cond_false]
    rw [eqIter a.tree b.tree (by omega) (.inl (a.tree.length:Int)) (.inr false) (Nat.lt_of_lt_of_le h3 hN),Option.bind_some,
      eqIter a.taps b.taps (by omega) (.inl (a.taps.length:Int)) (.inr false) (Nat.lt_of_lt_of_le h6 hN),Option.bind_some]
    · have:decide (a=b)=(decide (a.tree=b.tree)&&(decide (a.taps=b.taps)&&(decide (a.heap.arena=b.heap.arena)&&((a.heap.gc.phase==b.heap.gc.phase)&&((a.heap.gc.pos==b.heap.gc.pos)&&((a.heap.gc.round==b.heap.gc.round)&&decide (a.heap.gc.grey=b.heap.gc.grey))))))):=by
        rw [Bool.eq_iff_iff]
        obtain ⟨_,_,_,⟨_,⟨_,_,_,_⟩⟩,_,_,_,_,_,_⟩:=a
        obtain ⟨_,_,_,⟨_,⟨_,_,_,_⟩⟩,_,_,_,_,_,_⟩:=b
        simp only at e1 e2 e3 e4 e5 e6 e7
        subst e1;subst e2;subst e3;subst e4;subst e5;subst e6;subst e7
        simp only [DPart.mk.injEq,DHeap.mk.injEq,DGc.mk.injEq,Bool.and_eq_true,decide_eq_true_eq,beq_iff_eq,true_and,and_true]
        constructor
        · rintro ⟨q1,⟨q2,q3,q4,q5,q6⟩,q7⟩;exact ⟨q1,q7,q2,q3,q4,q5,q6⟩
        · rintro ⟨q1,q7,q2,q3,q4,q5,q6⟩;exact ⟨q1,⟨q2,q3,q4,q5,q6⟩,q7⟩
      rw [this]
      by_cases q1:a.tree=b.tree <;> by_cases q2:a.taps=b.taps <;> simp [q1,q2]
    · intro k y z hy hz hk
      simp only [lt_dec hk,cond_true,idx_nat,hy,hz,Option.bind_some,wrap1 (Nat.lt_trans hk h6)]
      by_cases h:y=z <;> simp [h]
    · simp only [ge_dec,cond_false]
    · intro k y z hy hz hk
      simp only [lt_dec hk,cond_true,idx_nat,hy,hz,Option.bind_some,wrap1 (Nat.lt_trans hk h3)]
      by_cases h:y=z <;> simp [h]
    · simp only [ge_dec,cond_false]
  · have:¬ a=b:=by
      rintro rfl
      simp at hj
    simp [this]
end Go.Kx
/- Plain laws: copies are what they copy. No program in sight. -/
namespace Go.Kx
open Go
set_option linter.unusedVariables false
set_option linter.unusedSimpArgs false
set_option maxRecDepth 10000
theorem appN {α:Type} {l:List α} (h:l.length<BIG):app ([]:List α) l=some l:=by
  unfold app;rw [if_pos (by simpa using h)];rfl
theorem i_copyInts {N:Nat} {l:List Int} (h:l.length<BIG):F_i_copyInts N l=some l:=by unfold F_i_copyInts;rw [appN h];rfl
theorem i_copyLabel {N:Nat} {l:DLabel} (h:l.levels.length<BIG):F_i_copyLabel N l=some l:=by unfold F_i_copyLabel;rw [i_copyInts h];rfl
theorem i_copyTree {N:Nat} {l:List DRes} (h:l.length<BIG):F_i_copyTree N l=some l:=by unfold F_i_copyTree;rw [appN h];rfl
theorem s_l6Copy {N:Nat} {l:List DRes} (h:l.length<BIG):F_s_l6Copy N l=some l:=by unfold F_s_l6Copy;rw [appN h];rfl
theorem i_copyObj {N:Nat} {o:DObj} (h:sz_DObj o<BIG):F_i_copyObj N o=some o:=by
  obtain ⟨h1,h2,h3⟩:=szObj h
  unfold F_i_copyObj
  simp only [i_copyInts h1,i_copyInts h2,appN h3,Option.bind_some]
theorem s_l8Obj {N:Nat} {o:DObj} (h:sz_DObj o<BIG):F_s_l8Obj N o=some o:=by
  obtain ⟨h1,h2,h3⟩:=szObj h
  unfold F_s_l8Obj
  simp only [appN h1,appN h2,appN h3,Option.bind_some]
theorem i_copyArena {N:Nat} (hN:BIG≤N) {l:List DObj} (hb:szL sz_DObj l<BIG):F_i_copyArena N l=some l:=by
  have hl:=szL_len hb
  unfold F_i_copyArena
  rw [iter_coll l (fun _ _=>true) (fun _ y=>y) hl hN,collI_filter (fun _=>true)]
  · simp
  · intro k t y hy hk ht
    simp only [lt_dec hk,cond_true,idx_nat,hy,Option.bind_some,i_copyObj (szL_mem hb (List.mem_of_getElem? hy)),wrap1 (Nat.lt_trans hk hl),app1 ht (Nat.lt_of_le_of_lt hk hl)]
    rfl
  · intro t
    simp only [ge_dec,cond_false]
theorem s_l8Copy {N:Nat} (hN:BIG≤N) {l:List DObj} (hb:szL sz_DObj l<BIG):F_s_l8Copy N l=some l:=by
  have hl:=szL_len hb
  unfold F_s_l8Copy
  rw [iter_coll l (fun _ _=>true) (fun _ y=>y) hl hN,collI_filter (fun _=>true)]
  · simp
  · intro k t y hy hk ht
    simp only [lt_dec hk,cond_true,idx_nat,hy,Option.bind_some,s_l8Obj (szL_mem hb (List.mem_of_getElem? hy)),wrap1 (Nat.lt_trans hk hl),app1 ht (Nat.lt_of_le_of_lt hk hl)]
    rfl
  · intro t
    simp only [ge_dec,cond_false]
theorem i_copyHeap {N:Nat} (hN:BIG≤N) {h:DHeap} (h1:szL sz_DObj h.arena<BIG) (h2:h.gc.grey.length<BIG):F_i_copyHeap N h=some h:=by
  unfold F_i_copyHeap
  simp only [i_copyArena hN h1,i_copyInts h2,Option.bind_some]
theorem s_l10Copy {N:Nat} (hN:BIG≤N) {h:DHeap} (h1:szL sz_DObj h.arena<BIG) (h2:h.gc.grey.length<BIG):F_s_l10Copy N h=some h:=by
  unfold F_s_l10Copy
  simp only [s_l8Copy hN h1,appN h2,Option.bind_some]
theorem i_copyPart {N:Nat} (hN:BIG≤N) {p:DPart} (h:sz_DPart p<BIG):F_i_copyPart N p=some p:=by
  obtain ⟨h1,h2,h3,h4,h5,h6⟩:=szPart h
  unfold F_i_copyPart
  simp only [i_copyLabel h1,i_copyInts h2,i_copyTree h3,i_copyHeap hN h4 h5,appN h6,Option.bind_some]
theorem s_l13Copy {N:Nat} (hN:BIG≤N) {p:DPart} (h:sz_DPart p<BIG):F_s_l13Copy N p=some p:=by
  obtain ⟨h1,h2,h3,h4,h5,h6⟩:=szPart h
  unfold F_s_l13Copy
  simp only [appN h1,appN h2,s_l6Copy h3,s_l10Copy hN h4 h5,appN h6,Option.bind_some]
theorem sub_take {α:Type} {l:List α} {k:Nat} (h:k≤l.length):sub l 0 (k:Int)=some (l.take k):=by
  unfold sub
  rw [if_pos ⟨Int.le_refl _,by omega,by omega⟩]
  simp
end Go.Kx
