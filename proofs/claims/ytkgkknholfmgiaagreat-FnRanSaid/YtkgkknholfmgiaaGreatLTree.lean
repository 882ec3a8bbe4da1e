/- Plain laws: trees of reserves. No program in sight. -/
import Derived.Test.YtkgkknholfmgiaaGreatLBoot
namespace Go.Kx
open Go
set_option linter.unusedVariables false
set_option linter.unusedSimpArgs false
set_option maxRecDepth 10000
def nth {α:Type} [Dat α] (l:List α) (i:Int):α:=(l[i.toNat]?).getD Dat.zero
theorem idx_ok {α:Type} [Dat α] {l:List α} {i:Int} (h0:0≤i) (h1:i<(l.length:Int)):idx l i=some (nth l i):=by
  have hz:l[i.toNat]?=some (l[i.toNat]'(by omega)):=List.getElem?_eq_getElem _
  unfold idx nth
  rw [if_pos h0,hz];rfl
theorem idx_in {α:Type} [Dat α] {l:List α} {i a b:Int} (h:inR i a b=true) (ha:0≤a) (hb:b<(l.length:Int)):idx l i=some (nth l i):=by
  rw [inR_iff] at h
  exact idx_ok (by omega) (by omega)
theorem nth_of {α:Type} [Dat α] {l:List α} {k:Nat} {y:α} (h:l[k]?=some y):nth l (k:Int)=y:=by simp [nth,h]
theorem nth_mem {α:Type} [Dat α] {l:List α} {i:Int} (h0:0≤i) (h1:i<(l.length:Int)):nth l i ∈ l:=by
  have hz:l[i.toNat]?=some (l[i.toNat]'(by omega)):=List.getElem?_eq_getElem _
  unfold nth;rw [hz];exact List.getElem_mem _
theorem lenB {α:Type} {l:List α} {n:Nat} (h:((l.length:Int) != (n:Int))=false):l.length=n:=by simp at h;omega
theorem i_isPlace (N:Nat) (a:Int):F_i_isPlace N a=some (inR a 0 4):=by unfold F_i_isPlace;rw [i_in];rfl
theorem s_l6Res (N:Nat) (a:Int):F_s_l6Res N a=some (inR a 0 4):=by unfold F_s_l6Res;rw [s_in];rfl
def liveAt (t:List DRes) (i:Int):Bool:=inR i 0 4&&(nth t i).live
def up (t:List DRes) (i:Int):Int:=(nth t i).parent
def leads (t:List DRes):Nat→Int→Bool
  | 0,_=>false
  | n+1,i=>(i==0) || (liveAt t i&&leads t n (up t i))
def climb (t:List DRes):Nat→Int→Int
  | 0,a=>a
  | n+1,a=>if a > 0 then climb t n (up t a) else a
theorem i_isLive (N:Nat) {t:List DRes} (h:t.length=5) (i:Int):F_i_isLive N t i=some (liveAt t i):=by
  unfold F_i_isLive liveAt
  rw [i_isPlace,Option.bind_some]
  cases hi:inR i 0 4
  · rfl
  · simp only [cond_true,idx_in hi (by omega) (show (4:Int)<(t.length:Int) by omega),Option.bind_some,Bool.true_and]
theorem lt5 {k:Nat} (h:k<(List.replicate 5 ()).length):k<5∧decide ((k:Int)<5)=true:=by
  have h:k<5:=by simpa using h
  exact ⟨h,by simp;omega⟩
theorem ltN {k n:Nat} {N:Nat} (hN:BIG≤N) (hn:n<16777216):(List.replicate n ()).length<N:=by
  have:16777216≤N:=hN
  simp;omega
theorem i_leadsUp {N:Nat} (hN:BIG≤N) {t:List DRes} (h:t.length=5) (i:Int):F_i_leadsUp N t i=some (leads t 5 i):=by
  unfold F_i_leadsUp
  rw [show ((i,0):Int×Int)=(fun (k:Nat) (a:Int)=>(a,(k:Int))) 0 i from rfl,
    iter_list (List.replicate 5 ()) (fun (k:Nat) (a:Int)=>(a,(k:Int))) (fun _ a _=>if a==0 then .inr (.inr true) else if liveAt t a then .inl (up t a) else .inr (.inr false)) (fun a=>.inl (a,5)) (fun _ _=>True) ?_ ?_ (ltN (k:=0) hN (by decide)) trivial]
  · have key:∀ (n k:Nat) (a:Int),Sum.elim (fun _=>some false) (fun r20=>some r20) (runL (ρ:=(Int×Int)⊕Bool) (fun (_:Nat) a (_:Unit)=>if a==0 then .inr (.inr true) else if liveAt t a then .inl (up t a) else .inr (.inr false)) (fun a=>.inl (a,5)) k a (List.replicate n ()))=some (leads t n a):=by
      intro n
      induction n with
      | zero=>intro k a;rfl
      | succ n ih =>
        intro k a
        rw [List.replicate_succ]
        unfold runL leads
        cases h0:(a==0)
        · cases h1:liveAt t a
          · rfl
          · simpa using ih (k+1) (up t a)
        · rfl
    exact key 5 0 i
  · intro k a y hy hk _
    obtain ⟨h5,hd⟩:=lt5 hk
    refine ⟨?_,fun _ _=>trivial⟩
    simp only [hd,cond_true,i_isLive N h,Option.bind_some]
    cases h0:(a==0)
    · cases h1:liveAt t a
      · rfl
      · have hin:inR a 0 4=true:=by unfold liveAt at h1;simp at h1;exact h1.1
        simp only [idx_in hin (by omega) (show (4:Int)<(t.length:Int) by omega),wrap1 (show k<BIG from Nat.lt_trans h5 (by decide)),Option.bind_some]
        rfl
    · rfl
  · intro a _
    rfl
def zRes:DRes:=DRes.mk false 0 (DAmt.mk 0 0 0)
def treeP (t:List DRes) (k:Nat) (r:DRes):Bool:=if r.live then amtOk r.bal&&leads t 5 (k:Int) else decide (r=zRes)
def sumLive (s:DAmt) (t:List DRes):DAmt:=t.foldl (fun s r=>if r.live then amtSum s r.bal else s) s
def treeOk (t:List DRes):Bool:=!((t.length:Int) != 5)&&((nth t 0).live&&(!((nth t 0).parent != (-1))&&(allI (treeP t) 0 t&&amtOk (sumLive ⟨0,0,0⟩ t))))
theorem i_TreeOk {N:Nat} (hN:BIG≤N) {t:List DRes}:F_i_TreeOk N t=some (treeOk t):=by
  unfold F_i_TreeOk treeOk
  cases h5:((t.length:Int) != 5)
  · have hl:t.length=5:=lenB (n:=5) h5
    have hB:t.length<BIG:=by rw [hl];decide
    rw [idx_ok (l:=t) (i:=0) (by omega) (by omega)]
    simp only [cond_false,Option.bind_some,bOr,Bool.not_false,Bool.true_and]
    cases h1:(nth t 0).live
    · rfl
    cases h2:((nth t 0).parent != (-1))
    · simp only [Bool.not_true,Bool.or_self,cond_false,Bool.true_and,Bool.not_false]
      rw [show ((0:Int),(0:Int),(0:Int),(0:Int))=(fun (k:Nat) (s:DAmt)=>((k:Int),s.pages,s.rent,s.cpu)) 0 ⟨0,0,0⟩ from rfl,
        iter_list t (fun (k:Nat) (s:DAmt)=>((k:Int),s.pages,s.rent,s.cpu)) (fun k s r=>if treeP t k r then .inl (if r.live then amtSum s r.bal else s) else .inr (.inr false)) (fun s=>.inl ((t.length:Int),s.pages,s.rent,s.cpu)) (fun _ _=>True) ?_ ?_ (Nat.lt_of_lt_of_le hB hN) trivial]
      · simp only [Option.bind_some,i_AmtOk]
        have key:∀ (l:List DRes) (k:Nat) (s:DAmt),Sum.elim (fun (o48:Int×Int×Int×Int)=>some (amtOk (DAmt.mk o48.2.1 o48.2.2.1 o48.2.2.2))) (fun r53=>some r53) (runL (fun k s r=>if treeP t k r then .inl (if r.live then amtSum s r.bal else s) else .inr (.inr false)) (fun s=>.inl ((t.length:Int),s.pages,s.rent,s.cpu)) k s l)=some (allI (treeP t) k l&&amtOk (sumLive s l)):=by
          intro l
          induction l with
          | nil=>intro k s;rfl
          | cons r l ih =>
            intro k s
            unfold runL allI
            cases hp:treeP t k r
            · rfl
            · simpa [sumLive] using ih (k+1) (if r.live then amtSum s r.bal else s)
        exact key t 0 _
      · intro k s r hy hk _
        refine ⟨?_,fun _ _=>trivial⟩
        simp only [lt_dec hk,cond_true,idx_nat,hy,Option.bind_some,i_AmtOk,i_leadsUp hN hl,i_sumOf,bOr,wrap1 (Nat.lt_trans hk hB)]
        unfold treeP
        cases hlv:r.live
        · show (bif !decide (r=zRes) then _ else _)=_
          cases decide (r=zRes) <;> rfl
        · cases amtOk r.bal <;> cases leads t 5 (k:Int) <;> rfl
      · intro s _
        simp only [ge_dec,cond_false]
    · rfl
  · rfl
def p1 (t:List DRes) (k:Nat) (r:DRes):Bool:=!((!r.live&&!decide (r=zRes)) || !amtOk r.bal)&&!(decide ((k:Int) > 0)&&(r.live&&(!inR r.parent 0 4 || (r.parent==(k:Int) || !(nth t r.parent).live))))
def p2 (t:List DRes) (k:Nat) (r:DRes):Bool:=!(r.live&&(climb t 5 (k:Int) != 0))
def Good (t:List DRes):Prop:=∀ i:Int,0<i→i≤4→(nth t i).live=true→0≤up t i∧up t i≤4∧up t i ≠ i∧(nth t (up t i)).live=true
theorem good_of {t:List DRes} (hl:t.length=5) (h:allI (p1 t) 0 t=true):Good t:=by
  intro i h0 h4 hlv
  rw [allI_iff] at h
  have hz:t[i.toNat]?=some (nth t i):=by
    have:=idx_ok (l:=t) (i:=i) (by omega) (by omega)
    unfold idx at this
    rwa [if_pos (by omega)] at this
  have:=h _ _ hz
  have e:((0+i.toNat:Nat):Int)=i:=by omega
  unfold p1 at this
  rw [e] at this
  unfold up
  simp [hlv,inR] at this
  rcases this.2 with q | q
  · omega
  · exact ⟨q.1.1,q.1.2,q.2.1,q.2.2⟩
theorem climb_inv {t:List DRes} (hg:Good t):∀ (n:Nat) (a:Int),0≤a→a≤4→(nth t a).live=true→0≤climb t n a∧climb t n a≤4∧(nth t (climb t n a)).live=true
  | 0,a,h0,h4,hlv=>⟨h0,h4,hlv⟩
  | n+1,a,h0,h4,hlv=>by
    unfold climb
    by_cases ha:a > 0
    · rw [if_pos ha]
      obtain ⟨g1,g2,_,g4⟩:=hg a ha h4 hlv
      exact climb_inv hg n _ g1 g2 g4
    · rw [if_neg ha];exact ⟨h0,h4,hlv⟩
theorem climb_add (t:List DRes):∀ (m n:Nat) (a:Int),climb t (m+n) a=climb t n (climb t m a)
  | 0,n,a=>by simp [climb]
  | m+1,n,a=>by
    rw [show m+1+n=(m+n)+1 by omega]
    show (if a > 0 then climb t (m+n) (up t a) else a)=climb t n (if a > 0 then climb t m (up t a) else a)
    by_cases ha:a > 0
    · rw [if_pos ha,if_pos ha,climb_add t m n]
    · rw [if_neg ha,if_neg ha]
      cases n <;> simp [climb,ha]
theorem climb_zero (t:List DRes) (n:Nat):climb t n 0=0:=by cases n <;> simp [climb]
theorem leads_climb {t:List DRes} (hg:Good t):∀ (n:Nat) (a:Int),0≤a→a≤4→(nth t a).live=true→leads t (n+1) a=(climb t n a==0)
  | 0,a,h0,h4,hlv=>by simp [leads,climb]
  | n+1,a,h0,h4,hlv=>by
    rw [show leads t (n+1+1) a=((a==0) || (liveAt t a&&leads t (n+1) (up t a))) from rfl]
    unfold climb
    by_cases ha:a=0
    · subst ha;simp
    · have hp:a > 0:=by omega
      obtain ⟨g1,g2,_,g4⟩:=hg a hp h4 hlv
      rw [if_pos hp,leads_climb hg n _ g1 g2 g4]
      have:liveAt t a=true:=by simp [liveAt,inR_iff,hlv];omega
      have h0':(a==0)=false:=by simpa using ha
      rw [this,h0'];rfl
theorem climb_45 {t:List DRes} (hg:Good t) {a:Int} (h0:0≤a) (h4:a≤4) (hlv:(nth t a).live=true) (h:climb t 5 a=0):climb t 4 a=0:=by
  have key:∀ (i j:Nat),i+j≤5→climb t i a=climb t (i+j) a→climb t (5 - j) a=0:=by
    intro i j hij e
    have h1:climb t (5 - j) a=climb t (5 - j - i) (climb t i a):=by rw [← climb_add];congr 1;omega
    have h2:climb t 5 a=climb t (5 - j - i) (climb t (i+j) a):=by rw [← climb_add];congr 1;omega
    rw [h1,e, ← h2,h]
  have mono:∀ (i j:Nat),climb t i a=0→climb t (i+j) a=0:=by
    intro i j e
    rw [climb_add,e,climb_zero]
  rcases Decidable.em (climb t 4 a=0) with q | q
  · exact q
  exfalso
  have nz:∀ i,i≤4→climb t i a ≠ 0:=fun i hi e=>q (by have:=mono i (4 - i) e;rwa [show i+(4 - i)=4 by omega] at this)
  have rng:∀ i,i≤4→1≤climb t i a∧climb t i a≤4:=fun i hi=>by
    obtain ⟨r1,r2,_⟩:=climb_inv hg i a h0 h4 hlv
    have:=nz i hi
    omega
  have ne:∀ (i j:Nat),0<j→i+j≤4→climb t i a ≠ climb t (i+j) a:=fun i j hj hij e=>nz (5 - j) (by omega) (key i j (by omega) e)
  have r0:=rng 0 (by omega)
  have r1:=rng 1 (by omega)
  have r2:=rng 2 (by omega)
  have r3:=rng 3 (by omega)
  have r4:=rng 4 (by omega)
  have n01:=ne 0 1 (by omega) (by omega)
  have n02:=ne 0 2 (by omega) (by omega)
  have n03:=ne 0 3 (by omega) (by omega)
  have n04:=ne 0 4 (by omega) (by omega)
  have n12:=ne 1 1 (by omega) (by omega)
  have n13:=ne 1 2 (by omega) (by omega)
  have n14:=ne 1 3 (by omega) (by omega)
  have n23:=ne 2 1 (by omega) (by omega)
  have n24:=ne 2 2 (by omega) (by omega)
  have n34:=ne 3 1 (by omega) (by omega)
  simp only [Nat.zero_add,Nat.reduceAdd] at *
  generalize climb t 0 a=c0 at *
  generalize climb t 1 a=c1 at *
  generalize climb t 2 a=c2 at *
  generalize climb t 3 a=c3 at *
  generalize climb t 4 a=c4 at *
  clear key mono nz rng ne
  omega
theorem leads_no {t:List DRes} {a:Int} (ha:a ≠ 0) (hu:up t a=a):∀ n,leads t n a=false
  | 0=>rfl
  | n+1=>by
    unfold leads
    rw [hu,leads_no ha hu n]
    simp [ha]
theorem tree_same {t:List DRes} (hl:t.length=5) (h0:(nth t 0).live=true):(allI (p1 t) 0 t&&allI (p2 t) 0 t)=allI (treeP t) 0 t:=by
  have hget:∀ (i:Nat) (r:DRes),t[i]?=some r→(i:Int)≤4∧nth t (i:Int)=r:=fun i r h=>⟨by have:=lt_of_some h;omega,nth_of h⟩
  rw [Bool.eq_iff_iff,Bool.and_eq_true]
  constructor
  · rintro ⟨h1,h2⟩
    have hg:=good_of hl h1
    rw [allI_iff] at h1 h2 ⊢
    intro i r hr
    obtain ⟨i4,hn⟩:=hget i r hr
    have q1:=h1 i r hr
    have q2:=h2 i r hr
    simp only [Nat.zero_add] at q1 q2 ⊢
    unfold p1 at q1
    unfold p2 at q2
    unfold treeP
    cases hlv:r.live
    · simp [hlv] at q1
      simp [q1.1]
    · simp [hlv] at q1 q2
      have hlv':(nth t (i:Int)).live=true:=by rw [hn];exact hlv
      have:=climb_45 hg (by omega) i4 hlv' q2
      simp only [if_true,Bool.and_eq_true]
      refine ⟨q1.1,?_⟩
      rw [leads_climb hg 4 _ (by omega) i4 hlv',this];rfl
  · intro h
    rw [allI_iff] at h
    have hp:∀ (i:Int),0≤i→i≤4→(nth t i).live=true→amtOk (nth t i).bal=true∧leads t 5 i=true:=by
      intro i hi hi4 hlv
      have hz:t[i.toNat]?=some (nth t i):=by
        have:=idx_ok (l:=t) (i:=i) (by omega) (by omega)
        unfold idx at this
        rwa [if_pos (by omega)] at this
      have:=h _ _ hz
      unfold treeP at this
      rw [if_pos hlv] at this
      have e:((0+i.toNat:Nat):Int)=i:=by omega
      rw [e] at this
      simpa using this
    have hg:Good t:=by
      intro i hi hi4 hlv
      obtain ⟨_,q⟩:=hp i (by omega) hi4 hlv
      have hne:up t i ≠ i:=fun e=>by rw [leads_no (by omega) e] at q;cases q
      have hi0:(i==0)=false:=by simp;omega
      rw [show leads t 5 i=((i==0) || (liveAt t i&&leads t 4 (up t i))) from rfl,hi0] at q
      simp only [Bool.false_or,Bool.and_eq_true] at q
      rw [show leads t 4 (up t i)=((up t i==0) || (liveAt t (up t i)&&leads t 3 (up t (up t i)))) from rfl] at q
      rcases Decidable.em (up t i=0) with e | e
      · rw [e];exact ⟨by omega,by omega,by omega,h0⟩
      · have e':(up t i==0)=false:=by simpa using e
        rw [e'] at q
        simp only [Bool.false_or,Bool.and_eq_true] at q
        have:=q.2.1
        simp only [liveAt,Bool.and_eq_true,inR_iff] at this
        exact ⟨this.1.1,this.1.2,hne,this.2⟩
    rw [allI_iff,allI_iff]
    refine ⟨fun i r hr=>?_,fun i r hr=>?_⟩
    · obtain ⟨i4,hn⟩:=hget i r hr
      have q:=h i r hr
      simp only [Nat.zero_add] at q ⊢
      unfold p1
      unfold treeP at q
      cases hlv:r.live
      · simp [hlv] at q
        subst q
        simp;decide
      · simp [hlv] at q
        simp [q.1]
        by_cases hi:i=0
        · exact .inl hi
        · have:=hg (i:Int) (by omega) i4 (by rw [hn];exact hlv)
          unfold up at this
          rw [hn] at this
          exact .inr ⟨inR_iff.2 ⟨this.1,this.2.1⟩,this.2.2.1,this.2.2.2⟩
    · obtain ⟨i4,hn⟩:=hget i r hr
      simp only [Nat.zero_add]
      unfold p2
      cases hlv:r.live
      · rfl
      · have hlv':(nth t (i:Int)).live=true:=by rw [hn];exact hlv
        obtain ⟨_,q⟩:=hp (i:Int) (by omega) i4 hlv'
        rw [leads_climb hg 4 _ (by omega) i4 hlv'] at q
        have q:climb t 4 (i:Int)=0:=by simpa using q
        have:climb t 5 (i:Int)=0:=by rw [show 5=4+1 from rfl,climb_add,q,climb_zero]
        simp [this]
theorem s_l6Sum {N:Nat} (hN:BIG≤N) {t:List DRes} (hB:t.length<BIG):F_s_l6Sum N t=some (sumLive ⟨0,0,0⟩ t):=by
  unfold F_s_l6Sum sumLive
  rw [show ((0:Int),(0:Int),(0:Int),(0:Int))=(fun (k:Nat) (s:DAmt)=>((k:Int),s.pages,s.rent,s.cpu)) 0 ⟨0,0,0⟩ from rfl,
    iter_fold t (fun (k:Nat) (s:DAmt)=>((k:Int),s.pages,s.rent,s.cpu)) (fun _ s r=>if r.live then amtSum s r.bal else s) (fun s=>((t.length:Int),s.pages,s.rent,s.cpu)) (fun _ _=>True) ?_ ?_ (Nat.lt_of_lt_of_le hB hN) trivial,foldI_const]
  · rfl
  · intro k s r hy hk _
    refine ⟨?_,trivial⟩
    simp only [lt_dec hk,cond_true,idx_nat,hy,Option.bind_some,wrap1 (Nat.lt_trans hk hB)]
    cases r.live <;> rfl
  · intro s _
    simp only [ge_dec,cond_false]
theorem climbLoop {N:Nat} (hN:BIG≤N) {t:List DRes} (hl:t.length=5) (hg:Good t) {k:Nat} {r:DRes} (hr:t[k]?=some r) :
    ∃ n,iter (fun (s72:Int×Int)=>((bif (decide (s72.2<5)) then ((idx t (k:Int)).bind fun y77=>bif y77.live then (some (decide (s72.1 > 0))) else (some false)) else (some false):Option Bool).bind fun j74=>bif j74 then ((idx t s72.1).bind fun y89=>some (.inl (y89.parent,IntKind.i64.wrap (s72.2+1)))) else (some (.inr (s72.1,s72.2))):Option ((Int×Int)⊕(Int×Int)))) N ((k:Int),0)=some (if r.live then climb t 5 (k:Int) else (k:Int),n):=by
  have hk:=lt_of_some hr
  rw [show (((k:Int),0):Int×Int)=(fun (n:Nat) (a:Int)=>(a,(n:Int))) 0 (k:Int) from rfl,
    iter_list (List.replicate 5 ()) (fun (n:Nat) (a:Int)=>(a,(n:Int))) (fun n a _=>if r.live&&decide (a > 0) then .inl (up t a) else .inr (a,(n:Int))) (fun a=>(a,5)) (fun _ a=>r.live=true→0≤a∧a≤4∧(nth t a).live=true) ?_ ?_ (ltN (k:=0) hN (by decide)) (fun h=>⟨by omega,by omega,by rw [nth_of hr];exact h⟩)]
  · have key:∀ (n j:Nat) (a:Int),(runL (ρ:=Int×Int) (fun (n:Nat) a (_:Unit)=>if r.live&&decide (a > 0) then .inl (up t a) else .inr (a,(n:Int))) (fun a=>(a,5)) j a (List.replicate n ())).1=if r.live then climb t n a else a:=by
      intro n
      induction n with
      | zero=>intro j a;simp [runL,climb]
      | succ n ih =>
        intro j a
        rw [List.replicate_succ]
        unfold runL climb
        cases hlv:r.live
        · rfl
        · have ih:=ih (j+1) (up t a)
          rw [hlv] at ih
          by_cases ha:a > 0
          · simpa [ha] using ih
          · simp [ha]
    have:=key 5 0 (k:Int)
    exact ⟨_,congrArg some (Prod.ext this rfl)⟩
  · intro n a y hy hn hI
    obtain ⟨h5,hd⟩:=lt5 hn
    simp only [hd,cond_true,idx_nat,hr,Option.bind_some]
    cases hlv:r.live
    · exact ⟨rfl,fun t' h=>by simp at h⟩
    · obtain ⟨i1,i2,i3⟩:=hI hlv
      by_cases ha:a > 0
      · have hd2:decide (a > 0)=true:=by simpa using ha
        simp only [cond_true,hd2,Option.bind_some,idx_ok (l:=t) (i:=a) i1 (by omega),wrap1 (show n<BIG from Nat.lt_trans h5 (by decide)),Bool.and_self,if_true]
        refine ⟨rfl,fun t' h _=>?_⟩
        cases h
        obtain ⟨g1,g2,_,g4⟩:=hg a ha i2 i3
        exact ⟨g1,g2,g4⟩
      · have hd2:decide (a > 0)=false:=by simpa using ha
        simp only [cond_true,hd2,Option.bind_some,cond_false]
        exact ⟨rfl,fun t' h=>by simp at h⟩
  · intro a _
    rfl
theorem s_TreeOk {N:Nat} (hN:BIG≤N) {t:List DRes}:F_s_TreeOk N t=some (treeOk t):=by
  unfold F_s_TreeOk treeOk
  cases h5:((t.length:Int) != 5)
  · have hl:t.length=5:=lenB (n:=5) h5
    have hB:t.length<BIG:=by rw [hl];decide
    rw [idx_ok (l:=t) (i:=0) (by omega) (by omega)]
    simp only [cond_false,Option.bind_some,bOr,Bool.not_false,Bool.true_and]
    cases h1:(nth t 0).live
    · rfl
    cases h2:((nth t 0).parent != (-1))
    · simp only [Bool.not_true,Bool.or_self,cond_false,Bool.true_and,Bool.not_false]
      rw [iter_all t (p1 t) (.inl (t.length:Int)) (.inr false) (Nat.lt_of_lt_of_le hB hN), ← tree_same hl h1]
      · simp only [Option.bind_some]
        cases hp:allI (p1 t) 0 t
        · rfl
        · have hg:=good_of hl hp
          simp only [if_true,Sum.elim_inl,Bool.true_and]
          rw [iter_all t (p2 t) (.inl (t.length:Int)) (.inr false) (Nat.lt_of_lt_of_le hB hN)]
          · simp only [Option.bind_some,s_l6Sum hN hB,s_AmtOk]
            cases allI (p2 t) 0 t <;> rfl
          · intro k r hy hk
            obtain ⟨n,hn⟩:=climbLoop hN hl hg hy
            simp only [lt_dec hk,cond_true]
            rw [hn]
            simp only [idx_nat,hy,Option.bind_some,wrap1 (Nat.lt_trans hk hB)]
            unfold p2
            cases hlv:r.live
            · rfl
            · simp only [cond_true,Option.bind_some,if_true,Bool.true_and]
              cases (climb t 5 (k:Int) != 0) <;> rfl
          · simp only [ge_dec,cond_false]
      · intro k r hy hk
        simp only [lt_dec hk,cond_true,idx_nat,hy,Option.bind_some,s_AmtOk,s_l6Res,bOr,wrap1 (Nat.lt_trans hk hB)]
        unfold p1
        rw [show DRes.mk false 0 (DAmt.mk 0 0 0)=zRes from rfl]
        cases hin:inR r.parent 0 4
        · cases r.live <;> cases decide (r=zRes) <;> cases amtOk r.bal <;> cases decide ((k:Int) > 0) <;> rfl
        · rw [idx_in hin (by omega) (show (4:Int)<(t.length:Int) by omega)]
          simp only [Option.bind_some]
          cases r.live <;> cases decide (r=zRes) <;> cases amtOk r.bal <;> cases decide ((k:Int) > 0) <;> cases (r.parent==(k:Int)) <;> cases (nth t r.parent).live <;> rfl
      · simp only [ge_dec,cond_false]
    · rfl
  · rfl
end Go.Kx
