/- Plain laws: ranges, amounts, labels, owned categories, what is started. No program in sight. -/
import Derived.Test.YtikeaiogpfjdnaaGreatHa
namespace Go.Kx
open Go
set_option linter.unusedVariables false
set_option linter.unusedSimpArgs false
set_option maxRecDepth 10000
theorem lu (p q:Bool):(bif p then some q else some false)=some (p&&q):=by cases p <;> rfl
theorem kG (p q:Bool):(bif p then some true else some q)=some (p || q):=by cases p <;> rfl
def iG (a b c:Int):Bool:=decide (b≤a)&&decide (a≤c)
theorem jE {a b c:Int}:iG a b c=true ↔ b≤a∧a≤c:=by simp [iG]
theorem l6 (N:Nat) (a b c:Int):i7 N a b c=some (iG a b c):=lu _ _
theorem mI (N:Nat) (a b c:Int):jc N a b c=some (iG a b c):=lu _ _
def vF (n:Int):Bool:=iG n 0 1000000
theorem IT (N:Nat) (a:Int):ql N a=some (vF a):=by unfold ql;rw [l6];rfl
theorem yP (N:Nat) (a:Int):mr N a=some (vF a):=by unfold mr;rw [mI];rfl
def jl (a:iC):Bool:=vF a.bh&&(vF a.ig&&vF a.iB)
theorem qZ (N:Nat) (a:iC):kA N a=some (jl a):=by unfold kA;simp only [IT,Option.bind_some,lu];rfl
theorem qM (N:Nat) (a:iC):kB N a=some (jl a):=by unfold kB;simp only [yP,Option.bind_some,lu];rfl
def ja (a b:iC):iC:=iC.mk (IntKind.i64.wrap (a.bh+b.bh)) (IntKind.i64.wrap (a.ig+b.ig)) (IntKind.i64.wrap (a.iB+b.iB))
def kH (a b:iC):iC×Bool:=if jl a&&jl b&&jl (ja a b) then (ja a b,true) else (a,false)
theorem uK (N:Nat) (a b:iC):mi N a b=some (kH a b):=by
  unfold mi kH
  simp only [qZ,Option.bind_some,kG]
  show (bif (!jl a || !jl b) then some (a,false) else (bif !jl (ja a b) then some (a,false) else some (ja a b,true)))=_
  cases jl a <;> cases jl b <;> cases jl (ja a b) <;> rfl
theorem tq (N:Nat) (a b:iC):lR N a b=some (ja a b):=rfl
theorem FQ (N:Nat) (a b:iC):sP N a b=some (kH a b):=by
  unfold sP kH
  simp only [qM,tq,Option.bind_some,kG]
  cases jl a <;> cases jl b <;> cases jl (ja a b) <;> rfl
def jH (l:jf):Bool:=((l.levels.length:Int)==4)&&l.levels.all fun y=>iG y 0 3
theorem lI {l:jf}:jH l=true ↔ l.levels.length=4∧∀ y,y ∈ l.levels→0≤y∧y≤3:=by
  simp only [jH,Bool.and_eq_true,List.all_eq_true,jE,beq_iff_eq]
  constructor
  · rintro ⟨h1,h2⟩;exact ⟨by omega,h2⟩
  · rintro ⟨h1,h2⟩;exact ⟨by omega,h2⟩
theorem pY {N:Nat} (hN:im≤N) {l:jf} (hb:l.levels.length<im):lf N l=some (jH l):=by
  unfold lf jH
  rw [kj l.levels (fun _ y=>iG y 0 3) (.inl (l.levels.length:Int)) (.inr false) (Nat.lt_of_lt_of_le hb hN),kF]
  · cases h:((l.levels.length:Int)==4)
    · have:((l.levels.length:Int) != 4)=true:=by simp [bne,h]
      simp [this]
    · have:((l.levels.length:Int) != 4)=false:=by simp [bne,h]
      simp only [this,cond_false,Option.bind_some,Bool.true_and]
      cases l.levels.all fun y=>iG y 0 3 <;> rfl
  · intro k y hy hk
    simp only [jC hk,cond_true,iW,hy,Option.bind_some,l6,jD (Nat.lt_trans hk hb)]
    cases iG y 0 3 <;> rfl
  · simp only [jB,cond_false]
theorem xh {N:Nat} (hN:im≤N) {l:jf} (hb:l.levels.length<im):oc N l=some (jH l):=by
  unfold oc jH
  rw [kj l.levels (fun _ y=>iG y 0 3) (.inl (l.levels.length:Int)) (.inr false) (Nat.lt_of_lt_of_le hb hN),kF]
  · simp only [Option.bind_some]
    cases l.levels.all fun y=>iG y 0 3 <;> simp
  · intro k y hy hk
    simp only [jC hk,cond_true,iW,hy,Option.bind_some,mI,jD (Nat.lt_trans hk hb)]
    cases iG y 0 3 <;> rfl
  · simp only [jB,cond_false]
def wt (l:List Int) (k:Nat) (y:Int):Bool:=iG y 0 3&&match k with
  | 0=>true
  | j+1=>!decide (y≤(l[j]?).getD 0)
def lG (l:List Int):Bool:=allI (wt l) 0 l
theorem C1 {l:List Int} {k:Nat} {y:Int} (hy:l[k]?=some y) (hk:k<l.length) (hb:l.length<im) {N:Nat} :
    (bif (!(iG y 0 3)) then (some true) else (bif (decide ((k:Int) > 0)) then ((idx l (IntKind.i64.wrap ((k:Int) - 1))).bind fun y18=>some (decide (y≤y18))) else (some false)):Option Bool)=some (!wt l k y):=by
  have hB:l.length<16777216:=hb
  unfold wt
  cases k with
  | zero =>
    have:decide (((0:Nat):Int) > 0)=false:=by decide
    simp only [this,cond_false]
    cases iG y 0 3 <;> rfl
  | succ j =>
    have:decide (((j+1:Nat):Int) > 0)=true:=by simp
    have e:IntKind.i64.wrap (((j+1:Nat):Int) - 1)=(j:Int):=by rw [i9 (by omega) (by omega)];omega
    have hz:l[j]?=some (l[j]'(by omega)):=List.getElem?_eq_getElem _
    simp only [this,cond_true,e,iW,hz,Option.bind_some,Option.getD_some]
    cases iG y 0 3 <;> simp
theorem xz {N:Nat} (hN:im≤N) {l:List Int} (hb:l.length<im):oN N l=some (lG l):=by
  unfold oN lG
  rw [kj l (wt l) (.inl (l.length:Int)) (.inr false) (Nat.lt_of_lt_of_le hb hN)]
  · simp only [Option.bind_some]
    cases allI (wt l) 0 l <;> rfl
  · intro k y hy hk
    simp only [jC hk,cond_true,iW,hy,Option.bind_some,l6,jD (Nat.lt_trans hk hb)]
    rw [C1 hy hk hb (N:=N)]
    cases wt l k y <;> rfl
  · simp only [jB,cond_false]
theorem Dh {N:Nat} (hN:im≤N) {l:List Int} (hb:l.length<im):si N l=some (lG l):=by
  unfold si lG
  rw [kj l (wt l) (.inl (l.length:Int)) (.inr false) (Nat.lt_of_lt_of_le hb hN)]
  · simp only [Option.bind_some]
    cases allI (wt l) 0 l <;> rfl
  · intro k y hy hk
    simp only [jC hk,cond_true,iW,hy,Option.bind_some,mI,jD (Nat.lt_trans hk hb),ge_iff_le]
    rw [C1 hy hk hb (N:=N)]
    cases wt l k y <;> rfl
  · simp only [jB,cond_false]
theorem GL {N:Nat} (hN:im≤N) {l:List Int} {x:Int} (hb:l.length<im):∃ r,o4 N l x=some r∧decide (r ≥ 0)=l.contains x:=by
  unfold o4
  have hB:l.length<16777216:=hb
  rw [show (0:Int)=(fun (k:Nat) (_:Unit)=>(k:Int)) 0 () from rfl,mY l (fun k (_:Unit)=>(k:Int)) (fun k _ y=>if x==y then .inr (.inr (k:Int)) else .inl ()) (fun _=>.inl (l.length:Int)) (fun _ _=>True) ?_ ?_ (Nat.lt_of_lt_of_le hb hN) trivial]
  · simp only [Option.bind_some]
    have key:∀ (m:List Int) (k:Nat), ∃ r,Sum.elim (fun _=>some (-1)) (fun r16=>some r16) (lT (ρ:=Int⊕Int) (fun (k:Nat) (_:Unit) y=>if x==y then .inr (.inr (k:Int)) else .inl ()) (fun _=>.inl (l.length:Int)) k () m)=some r∧decide (r ≥ 0)=m.contains x:=by
      intro m
      induction m with
      | nil=>intro k;exact ⟨-1,rfl,rfl⟩
      | cons y m ih =>
        intro k
        cases hxy:(x==y)
        · obtain ⟨r,h1,h2⟩:=ih (k+1)
          have hne:x ≠ y:=by simpa using hxy
          refine ⟨r,by simpa [lT,hxy] using h1,by rw [h2];simp [List.contains_cons,hne]⟩
        · have he:x=y:=by simpa using hxy
          exact ⟨k,by simp [lT,hxy],by simp [List.contains_cons,he]⟩
    exact key l 0
  · intro k _ y hy hk _
    simp only [jC hk,cond_true,iW,hy,Option.bind_some,jD (Nat.lt_trans hk hb)]
    cases (x==y) <;> simp
  · intro _ _
    simp only [jB,cond_false]
theorem tf {N:Nat} (hN:im≤N) {l:List Int} {x:Int} (hb:l.length<im):kE N l x=some (l.contains x):=by
  unfold kE
  obtain ⟨r,h1,h2⟩:=GL hN hb (x:=x)
  rw [h1,Option.bind_some,h2]
def nt (b:List Int):Nat→List Int→List Int
  | _,[]=>[]
  | k,y::l=>if decide (y > (b[k]?).getD 0) then (k:Int)::nt b (k+1) l else nt b (k+1) l
theorem yR (b:List Int):∀ (l:List Int) (k:Nat),(nt b k l).length≤l.length
  | [],_=>Nat.le_refl _
  | y::l,k=>by
    unfold nt
    have:=yR b l (k+1)
    split <;> simp <;> omega
theorem vo (b:List Int):∀ (l:List Int) (k:Nat) (acc:List Int),foldI (fun k (acc:List Int) y=>if decide (y > (b[k]?).getD 0) then acc++[(k:Int)] else acc) k acc l=acc++nt b k l
  | [],_,acc=>by simp [foldI,nt]
  | y::l,k,acc=>by
    unfold foldI nt
    rw [vo b l]
    cases decide (y > (b[k]?).getD 0) <;> simp
theorem Dc {N:Nat} (hN:im≤N) {a b:jf} (ha:a.levels.length<im) (hab:a.levels.length≤b.levels.length):sa N a b=some (nt b.levels 0 a.levels):=by
  unfold sa
  rw [show (([]:List Int),(0:Int))=(fun (k:Nat) (t:List Int)=>(t,(k:Int))) 0 [] from rfl,
    kV a.levels (fun k (t:List Int)=>(t,(k:Int))) (fun k acc y=>if decide (y > (b.levels[k]?).getD 0) then acc++[(k:Int)] else acc) (fun t=>(t,(a.levels.length:Int))) (fun k t=>t.length≤k) ?_ ?_ (Nat.lt_of_lt_of_le ha hN) (by simp),vo]
  · simp
  · intro k t y hy hk hI
    have hz:b.levels[k]?=some (b.levels[k]'(by omega)):=List.getElem?_eq_getElem _
    simp only [jC hk,cond_true,iW,hy,hz,Option.bind_some,Option.getD_some,jD (Nat.lt_trans hk ha)]
    cases decide (y > b.levels[k]'(by omega))
    · exact ⟨rfl,by simp;omega⟩
    · have:app t [(k:Int)]=some (t++[(k:Int)]):=by unfold app;rw [if_pos (by simp;omega)]
      simp only [this,Option.bind_some,cond_true,if_true]
      exact ⟨trivial,by simp;omega⟩
  · intro t _
    simp only [jB,cond_false]
def kv (own:List Int) (a b:jf):Bool:=lG own&&(jH a&&(jH b&&allI (fun k y=>!decide (y > (b.levels[k]?).getD 0) || own.contains (k:Int)) 0 a.levels))
theorem wL (b:List Int) (q:Int→Bool):∀ (l:List Int) (k:Nat),(nt b k l).all q=allI (fun k y=>!decide (y > (b[k]?).getD 0) || q (k:Int)) k l
  | [],_=>rfl
  | y::l,k=>by
    unfold nt allI
    rw [← wL b q l (k+1)]
    cases decide (y > (b[k]?).getD 0) <;> simp
theorem yX {N:Nat} (hN:im≤N) {own:List Int} {a b:jf} (ho:own.length<im) (ha:a.levels.length<im) (hb:b.levels.length<im):oC N own a b=some (kv own a b):=by
  unfold oC kv
  simp only [Dh hN ho,xh hN ha,xh hN hb,Option.bind_some,kG]
  cases h1:lG own
  · rfl
  cases h2:jH a
  · rfl
  cases h3:jH b
  · rfl
  have l2:=(lI.1 h2).1
  have l3:=(lI.1 h3).1
  have hl:=yR b.levels a.levels 0
  have hB:(nt b.levels 0 a.levels).length<im:=Nat.lt_of_le_of_lt hl ha
  simp only [Bool.not_true,Bool.or_self,cond_false,Dc hN ha (b:=b) (by omega),Option.bind_some,Bool.true_and]
  rw [kj (nt b.levels 0 a.levels) (fun _ y=>own.contains y) (.inl ((nt b.levels 0 a.levels).length:Int)) (.inr false) (Nat.lt_of_lt_of_le hB hN),kF,wL]
  · simp only [Option.bind_some]
    cases allI _ 0 a.levels <;> rfl
  · intro k y hy hk
    simp only [jC hk,cond_true,iW,hy,Option.bind_some,tf hN ho,jD (Nat.lt_trans hk hB)]
    cases own.contains y <;> rfl
  · simp only [jB,cond_false]
def yo (a b:jf):Bool:=kv [] a b
theorem EC {α ρ:Type} {body:Int→Option (Int⊕ρ)} (x:List α) (h4:x.length=4) (p:Nat→α→Bool) (r r':ρ) {N:Nat} (hN:im≤N)
    (hs:∀ (k:Nat) (y:α),x[k]?=some y→k<4→decide ((k:Int)<4)=true→body (k:Int)=some (if p k y then .inl ((k+1:Nat):Int) else .inr r')) (he:body 4=some (.inr r)):iter body N 0=some (if allI p 0 x then r else r') :=
  kj x p r r' (by have:16777216≤N:=hN;omega) (fun k y hy hk=>hs k y hy (by omega) (by simp;omega)) (by rw [h4];exact he)
theorem Da {N:Nat} (hN:im≤N) {a b:jf} (ha:a.levels.length<im) (hb:b.levels.length<im):tW N a b=some (yo a b):=by
  unfold tW yo kv
  simp only [pY hN ha,pY hN hb,Option.bind_some,kG]
  cases h2:jH a
  · simp
  cases h3:jH b
  · simp
  have l2:=(lI.1 h2).1
  have l3:=(lI.1 h3).1
  simp only [Bool.not_true,Bool.or_self,cond_false]
  rw [EC a.levels l2 (fun k y=>!decide (y > (b.levels[k]?).getD 0) || ([]:List Int).contains (k:Int)) (.inl 4) (.inr false) hN]
  · simp only [Option.bind_some,show lG []=true from rfl,Bool.true_and]
    cases allI _ 0 a.levels <;> rfl
  · intro k y hy hk hd
    have hz:b.levels[k]?=some (b.levels[k]'(by omega)):=List.getElem?_eq_getElem _
    simp only [hd,cond_true,iW,hy,hz,Option.bind_some,Option.getD_some,jD (show k<im from Nat.lt_trans hk (by decide))]
    cases decide (y > b.levels[k]'(by omega)) <;> rfl
  · rfl
def tA:iC→List ka→Bool
  | _,[]=>true
  | a,b::l=>(kH a b.j0).2&&(jH b.label&&(lG b.own&&tA (kH a b.j0).1 l))
def vB (l:List ka):Bool:=tA ⟨0,0,0⟩ l&&iG (l.length:Int) 1 3
theorem ze (e:Int) (g:Nat→iC→ka→iC⊕((Int×Int×Int×Int)⊕Bool)) (fin:iC→((Int×Int×Int×Int)⊕Bool)) (k:Option Bool)
    (hg:∀ k t y,g k t y=if (kH t y.j0).2&&(jH y.label&&lG y.own) then .inl (kH t y.j0).1 else .inr (.inr false)) (hf:∀ t, ∃ v,fin t=.inl v) :
    ∀ (l:List ka) (j:Nat) (t:iC),Sum.elim (fun _=>k) (fun r=>some r) (lT g fin j t l)=bif tA t l then k else some false
  | [],j,t=>by obtain ⟨v,hv⟩:=hf t;simp [lT,tA,hv]
  | b::l,j,t=>by
    have ih:=ze e g fin k hg hf l (j+1)
    simp only [lT,tA,hg]
    cases (kH t b.j0).2
    · rfl
    cases jH b.label
    · rfl
    cases lG b.own
    · rfl
    simpa using ih _
theorem HS {l:List ka} {y:ka} (hb:jo kT l<im) (hy:y ∈ l):y.label.levels.length<im∧y.own.length<im:=by
  have:=jM hb hy
  unfold kT lQ at this
  omega
theorem FT {N:Nat} (hN:im≤N) {l:List ka} (hb:jo kT l<im):sJ N l=some (vB l):=by
  have hl:=kY hb
  have hN':16777216≤N:=hN
  have hlB:l.length<16777216:=hl
  unfold sJ vB
  rw [show ((0:Int),(0:Int),(0:Int),(0:Int))=(fun (k:Nat) (t:iC)=>((k:Int),t.bh,t.ig,t.iB)) 0 ⟨0,0,0⟩ from rfl,
    mY (l.take 3) (fun (k:Nat) (t:iC)=>((k:Int),t.bh,t.ig,t.iB)) (fun k t y=>if (kH t y.j0).2&&(jH y.label&&lG y.own) then .inl (kH t y.j0).1 else .inr (.inr false)) (fun t=>.inl (((l.take 3).length:Int),t.bh,t.ig,t.iB)) (fun _ _=>True) ?_ ?_ (by simp;omega) trivial]
  · simp only [Option.bind_some,l6]
    rw [ze 0 _ _ _ (fun _ _ _=>rfl) (fun t=>⟨_,rfl⟩),lu]
    rcases Nat.lt_or_ge 3 l.length with h | h
    · have:iG (l.length:Int) 1 3=false:=by simp [iG];omega
      simp [this]
    · rw [List.take_of_length_le h]
  · intro k t y hy hk _
    have hk2:k<3∧k<l.length:=by simp at hk;omega
    rw [List.getElem?_take_of_lt hk2.1] at hy
    obtain ⟨b1,b2⟩:=HS hb (List.mem_of_getElem? hy)
    refine ⟨?_,fun _ _=>trivial⟩
    have h3:decide ((k:Int)<3)=true:=by simp;omega
    simp only [jC hk2.2,h3,cond_true,iW,hy,Option.bind_some,uK,pY hN b1,xz hN b2,kG,jD (show k<im from Nat.lt_trans hk2.1 (by decide))]
    cases h1:(kH t y.j0).2
    · cases jH y.label <;> cases lG y.own <;> rfl
    cases jH y.label
    · rfl
    cases lG y.own <;> rfl
  · intro t _
    simp only [List.length_take]
    rcases Nat.lt_or_ge 3 l.length with h | h
    · have e:min 3 l.length=3:=by omega
      have h3:decide (((3:Nat):Int)<(l.length:Int))=true:=by simp;omega
      simp only [e,h3,cond_true];rfl
    · have e:min 3 l.length=l.length:=by omega
      simp only [e,jB,cond_false,Option.bind_some]
end Go.Kx
/- Plain laws: the first draws come to an end. No program in sight. -/
namespace Go.Kx
open Go
set_option linter.unusedVariables false
set_option linter.unusedSimpArgs false
set_option maxRecDepth 10000
theorem vM {σ ρ:Type} {body:σ→Option (σ⊕ρ)} (I:σ→Prop) (J:ρ→Prop) (μ:σ→Nat)
    (h:∀ s,I s→∃ o,body s=some o∧(∀ s',o=.inl s'→I s'∧μ s'<μ s)∧∀ r,o=.inr r→J r):∀ (N:Nat) (s:σ),I s→μ s<N→∃ r,iter body N s=some r∧J r
  | 0,_,_,hN=>absurd hN (Nat.not_lt_zero _)
  | N+1,s,hI,hN=>by
    obtain ⟨o,ho,h1,h2⟩:=h s hI
    cases o with
    | inl s' =>
      obtain ⟨hI',hm⟩:=h1 s' rfl
      obtain ⟨r,hr,hJ⟩:=vM I J μ h N s' hI' (by omega)
      exact ⟨r,by show (body s).bind _=_;rw [ho];exact hr,hJ⟩
    | inr r=>exact ⟨r,by show (body s).bind _=_;rw [ho];rfl,h2 r rfl⟩
theorem xj {α:Type} {l:List α} {i:Int} (h0:0≤i) (h1:i<(l.length:Int)):∃ y,idx l i=some y∧y ∈ l:=by
  have hz:l[i.toNat]?=some (l[i.toNat]'(by omega)):=List.getElem?_eq_getElem _
  exact ⟨_,by unfold idx;rw [if_pos h0,hz],List.getElem_mem _⟩
theorem Dd (a:Int) {m:Int} (h0:0≤m) (h1:m≤2147483647):0≤wF a m∧wF a m≤m:=by
  have h:(BitVec.ofInt IntKind.i64.bits a &&& BitVec.ofInt IntKind.i64.bits m).toNat≤m.toNat:=by
    rw [BitVec.toNat_and]
    refine Nat.le_trans Nat.and_le_right ?_
    rw [BitVec.toNat_ofInt]
    show (m % ((2 ^ 64:Nat):Int)).toNat≤m.toNat
    rw [Int.emod_eq_of_lt h0 (by omega)]
    exact Nat.le_refl _
  unfold wF
  rw [i9 (by omega) (by omega)]
  omega
def Cu (c:iu):Prop:=c.b.length≤1048576∧0≤c.i
theorem Cu.to {c:iu} (hc:Cu c) {i h:Int} (hi:0≤i):Cu ⟨c.b,i,h⟩:=⟨hc.1,hi⟩
theorem IP {N:Nat} (hN:im≤N) {l:List U8} (hl:l.length≤1048576):∃ h,r9 N l=some ⟨l,0,h⟩:=by
  unfold r9
  have hB:(16777216:Nat)≤N:=hN
  obtain ⟨r,hr,_⟩:=vM (body:=fun (s1:Int×Int)=>((bif (decide (s1.2<(l.length:Int))) then (some (decide (s1.2<4000))) else (some false):Option Bool).bind fun j3=>bif j3 then ((idx l s1.2).bind fun y8=>some (.inl (wF (IntKind.i64.wrap ((IntKind.i64.wrap ((IntKind.i64.wrap (s1.1 * 131))+(IntKind.i64.wrap y8.v)))+7)) 1073741823,IntKind.i64.wrap (s1.2+1)))) else (some (.inr (s1.1,s1.2))):Option ((Int×Int)⊕(Int×Int))))
    (fun s=>0≤s.2∧s.2≤(l.length:Int)) (fun _=>True) (fun s=>((l.length:Int) - s.2).toNat) (by
      rintro ⟨h,i⟩ ⟨h0,h1⟩
      simp only at h0 h1
      cases hlt:decide (i<(l.length:Int)) with
      | false=>exact ⟨_,by simp only [hlt,cond_false,Option.bind_some];rfl,by simp,fun _ _=>trivial⟩
      | true =>
        have h2:=of_decide_eq_true hlt
        cases h4:decide (i<4000) with
        | false=>exact ⟨_,by simp only [hlt,h4,cond_false,cond_true,Option.bind_some];rfl,by simp,fun _ _=>trivial⟩
        | true =>
          obtain ⟨y,hy,_⟩:=xj h0 h2
          refine ⟨_,by simp only [hlt,h4,hy,cond_true,Option.bind_some];rfl,?_,by simp⟩
          rintro s' hs
          cases Sum.inl.inj hs
          simp only
          rw [i9 (by omega) (by omega)]
          omega) N (IntKind.i64.wrap (10101+(l.length:Int)),0) ⟨Int.le_refl _,by simp⟩ (by simp only;omega)
  rw [hr]
  exact ⟨r.1,rfl⟩
theorem wM {N:Nat} {c:iu} (hc:Cu c):∃ x i h,mW N c=some (x,⟨c.b,i,h⟩)∧0≤i∧0≤x∧x≤255:=by
  unfold mW
  obtain ⟨hb,hi⟩:=hc
  cases hlt:decide (c.i<(c.b.length:Int)) with
  | true =>
    have h1:=of_decide_eq_true hlt
    obtain ⟨y,hy,_⟩:=xj hi h1
    simp only [hy,cond_true,Option.bind_some]
    exact ⟨_,_,_,rfl,by rw [i9 (by omega) (by omega)];omega,Dd _ (by decide) (by decide)⟩
  | false=>exact ⟨_,_,_,rfl,hi,Dd _ (by decide) (by decide)⟩
theorem A9 {a n:Int} (ha:0≤a) (hn:0<n):0≤Int.tmod a n∧Int.tmod a n<n:=by
  rw [Int.tmod_eq_emod_of_nonneg ha]
  exact ⟨Int.emod_nonneg _ (by omega),Int.emod_lt_of_pos _ hn⟩
theorem Gq {n:Int} (h:n ≠ 0):dz n=some ():=by unfold dz;rw [if_neg h]
theorem su {N:Nat} {c:iu} (hc:Cu c) (n:Int):∃ x i h,iv N c n=some (x,⟨c.b,i,h⟩)∧0≤i∧0≤x∧(0<n→x<n)∧(n≤0→x=0):=by
  unfold iv
  cases h0:decide (n≤0) with
  | true=>exact ⟨0,c.i,c.h,rfl,hc.2,Int.le_refl _,fun h=>h,fun _=>rfl⟩
  | false =>
    have hn:=of_decide_eq_false h0
    simp only [cond_false]
    cases h1:decide (n≤256) with
    | true =>
      obtain ⟨x,i,h,e,hi,hx,_⟩:=wM (N:=N) hc
      simp only [cond_true,e,Option.bind_some,Gq (show n ≠ 0 by omega)]
      obtain ⟨q1,q2⟩:=A9 hx (show 0<n by omega)
      exact ⟨_,i,h,rfl,hi,q1,fun _=>q2,fun h=>by omega⟩
    | false =>
      obtain ⟨x1,i1,h1,e1,hi1,hx1,hy1⟩:=wM (N:=N) hc
      obtain ⟨x2,i2,h2,e2,hi2,hx2,hy2⟩:=wM (N:=N) (hc.to (h:=h1) hi1)
      obtain ⟨x3,i3,h3,e3,hi3,hx3,hy3⟩:=wM (N:=N) (hc.to (h:=h2) hi2)
      obtain ⟨x4,i4,h4,e4,hi4,hx4,hy4⟩:=wM (N:=N) (hc.to (h:=h3) hi3)
      simp only [cond_false,e1,e2,e3,e4,Option.bind_some,Gq (show n ≠ 0 by omega)]
      rw [i9 (n:=x1 * 16777216) (by omega) (by omega),i9 (n:=x2 * 65536) (by omega) (by omega),i9 (n:=x3 * 256) (by omega) (by omega),
        i9 (n:=x1 * 16777216+x2 * 65536) (by omega) (by omega),i9 (n:=x1 * 16777216+x2 * 65536+x3 * 256) (by omega) (by omega),i9 (n:=x1 * 16777216+x2 * 65536+x3 * 256+x4) (by omega) (by omega)]
      obtain ⟨q1,q2⟩:=A9 (show 0≤x1 * 16777216+x2 * 65536+x3 * 256+x4 by omega) (show 0<n by omega)
      exact ⟨_,i4,h4,rfl,hi4,q1,fun _=>q2,fun h=>by omega⟩
theorem BR {N:Nat} {c:iu} (hc:Cu c) (n:Int):∃ x i h,jL N c n=some (x,⟨c.b,i,h⟩)∧0≤i:=by
  unfold jL
  obtain ⟨x,i,h,e,hi,_⟩:=su (N:=N) hc n
  simp only [e,Option.bind_some]
  exact ⟨_,i,h,rfl,hi⟩
theorem w7 {N:Nat} {c:iu} (hc:Cu c) {l:List Int} (hl:0<l.length):∃ x i h,iZ N c l=some (x,⟨c.b,i,h⟩)∧0≤i∧x ∈ l:=by
  unfold iZ
  obtain ⟨x,i,h,e,hi,hx,hy,_⟩:=su (N:=N) hc (l.length:Int)
  obtain ⟨y,hy,hm⟩:=xj hx (hy (by omega))
  simp only [e,Option.bind_some,hy]
  exact ⟨_,i,h,rfl,hi,hm⟩
theorem tZ {α:Type} {t:List α} {z:α} (h:t.length≤1000000):app t [z]=some (t++[z]):=by
  have:(16777216:Nat)=im:=rfl
  unfold app;rw [if_pos (by simp only [List.length_cons,List.length_nil];omega)]
theorem Df {N:Nat} (hN:im≤N) {c:iu} (hc:Cu c):∃ x i h,m4 N c=some (x,⟨c.b,i,h⟩)∧0≤i∧x.levels.length=4∧∀ y,y ∈ x.levels→0≤y∧y≤3:=by
  unfold m4
  have hB:(16777216:Nat)≤N:=hN
  obtain ⟨r,hr,hJ⟩:=vM (body:=fun (s6:Int×Int×Int×(List Int))=>(bif (decide (s6.1<4)) then ((iv N (iu.mk c.b s6.2.1 s6.2.2.1) 4).bind fun y9=>(app s6.2.2.2 ([y9.1]:List Int)).bind fun y16=>some (.inl (IntKind.i64.wrap (s6.1+1),y9.2.i,y9.2.h,y16))) else (some (.inr (s6.1,s6.2.1,s6.2.2.1,s6.2.2.2))):Option ((Int×Int×Int×(List Int))⊕(Int×Int×Int×(List Int)))))
    (fun s=>0≤s.1∧s.1≤4∧0≤s.2.1∧(s.2.2.2.length:Int)=s.1∧∀ y,y ∈ s.2.2.2→0≤y∧y≤3) (fun s=>0≤s.2.1∧s.2.2.2.length=4∧∀ y,y ∈ s.2.2.2→0≤y∧y≤3) (fun s=>(4 - s.1).toNat) (by
      rintro ⟨k,i,h,l⟩ ⟨h0,h1,h2,h3,h4⟩
      simp only at h0 h1 h2 h3 h4
      cases hlt:decide (k<4) with
      | false =>
        have:=of_decide_eq_false hlt
        refine ⟨_,by simp only [hlt,cond_false];rfl,by simp,fun r hr=>?_⟩
        cases Sum.inr.inj hr
        exact ⟨h2,by simp only;omega,h4⟩
      | true =>
        have:=of_decide_eq_true hlt
        obtain ⟨x,i',h',e,hi,hx,hy,_⟩:=su (N:=N) (hc.to (h:=h) h2) 4
        refine ⟨_,by simp only [hlt,cond_true,e,Option.bind_some,tZ (t:=l) (z:=x) (by omega)];rfl,?_,by simp⟩
        rintro s' hs
        cases Sum.inl.inj hs
        simp only
        rw [i9 (by omega) (by omega)]
        refine ⟨⟨by omega,by omega,hi,by simp only [List.length_append,List.length_cons,List.length_nil];omega,fun y hm=>?_⟩,by omega⟩
        rcases List.mem_append.1 hm with hm | hm
        · exact h4 y hm
        · rw [List.mem_singleton] at hm
          have:=hy (by omega)
          omega) N (0,c.i,c.h,[]) ⟨Int.le_refl _,by simp,hc.2,rfl,by simp⟩ (by simp only;omega)
  rw [hr]
  exact ⟨_,_,_,rfl,hJ.1,hJ.2.1,hJ.2.2⟩
theorem D4 {N:Nat} (hN:im≤N) {c:iu} (hc:Cu c):∃ x i h,sk N c=some (x,⟨c.b,i,h⟩)∧0≤i∧x.levels.length≤5:=by
  unfold sk
  obtain ⟨x,i,h,e,hi,hl,_⟩:=Df hN hc
  obtain ⟨x1,i1,h1,e1,hi1,_⟩:=su (N:=N) (hc.to (h:=h) hi) 14
  obtain ⟨x2,i2,h2,e2,hi2,hx2,hy2,_⟩:=su (N:=N) (hc.to (h:=h1) hi1) 4
  have hy2:=hy2 (by decide)
  obtain ⟨x3,i3,h3,e3,hi3,_⟩:=w7 (N:=N) (hc.to (h:=h2) hi2) (l:=[-1,4]) (by decide)
  simp only [e,e1,Option.bind_some]
  cases x1==0
  · cases x1==1
    · cases x1==2
      · exact ⟨_,i1,h1,rfl,hi1,by simp only;omega⟩
      · simp only [cond_true,cond_false,tZ (t:=x.levels) (z:=0) (by omega),Option.bind_some]
        exact ⟨_,i1,h1,rfl,hi1,by simp only [List.length_append,List.length_cons,List.length_nil];omega⟩
    · obtain ⟨y,hy,_⟩:=xj (l:=x.levels) hx2 (by omega)
      simp only [cond_true,cond_false,e2,e3,hy,Option.bind_some]
      exact ⟨_,i3,h3,rfl,hi3,by simp only [List.length_set];omega⟩
  · have hs:sub x.levels 0 x2=some ((x.levels.drop (0:Int).toNat).take (x2.toNat - (0:Int).toNat)):=by unfold sub;rw [if_pos ⟨Int.le_refl _,hx2,by omega⟩]
    simp only [cond_true,e2,hs,Option.bind_some]
    exact ⟨_,i2,h2,rfl,hi2,by simp only [List.length_take,List.length_drop];omega⟩
theorem IJ {N:Nat} (hN:im≤N) {c:iu} (hc:Cu c):∃ x i h,sn N c=some (x,⟨c.b,i,h⟩)∧0≤i∧x.length≤5:=by
  unfold sn
  have hB:(16777216:Nat)≤N:=hN
  obtain ⟨r,hr,hJ⟩:=vM (body:=fun (s4:(List Int)×Int×Int×Int)=>(bif (decide (s4.2.1<4)) then ((jL N (iu.mk c.b s4.2.2.1 s4.2.2.2) 3).bind fun y7=>bif y7.1 then ((app s4.1 [s4.2.1]).bind fun y14=>some (.inl (y14,IntKind.i64.wrap (s4.2.1+1),y7.2.i,y7.2.h))) else (some (.inl (s4.1,IntKind.i64.wrap (s4.2.1+1),y7.2.i,y7.2.h)))) else (some (.inr (s4.1,s4.2.1,s4.2.2.1,s4.2.2.2))):Option (((List Int)×Int×Int×Int)⊕((List Int)×Int×Int×Int))))
    (fun s=>0≤s.2.1∧s.2.1≤4∧0≤s.2.2.1∧(s.1.length:Int)≤s.2.1) (fun s=>0≤s.2.2.1∧s.1.length≤4) (fun s=>(4 - s.2.1).toNat) (by
      rintro ⟨l,k,i,h⟩ ⟨h0,h1,h2,h3⟩
      simp only at h0 h1 h2 h3
      cases hlt:decide (k<4) with
      | false =>
        have:=of_decide_eq_false hlt
        refine ⟨_,by simp only [hlt,cond_false];rfl,by simp,fun r hr=>?_⟩
        cases Sum.inr.inj hr
        exact ⟨h2,by simp only;omega⟩
      | true =>
        have:=of_decide_eq_true hlt
        obtain ⟨x,i',h',e,hi⟩:=BR (N:=N) (hc.to (h:=h) h2) 3
        cases x with
        | false =>
          refine ⟨_,by simp only [hlt,cond_true,cond_false,e,Option.bind_some];rfl,?_,by simp⟩
          rintro s' hs
          cases Sum.inl.inj hs
          simp only
          rw [i9 (by omega) (by omega)]
          exact ⟨⟨by omega,by omega,hi,by omega⟩,by omega⟩
        | true =>
          refine ⟨_,by simp only [hlt,cond_true,e,Option.bind_some,tZ (t:=l) (z:=k) (by omega)];rfl,?_,by simp⟩
          rintro s' hs
          cases Sum.inl.inj hs
          simp only
          rw [i9 (by omega) (by omega)]
          exact ⟨⟨by omega,by omega,hi,by simp only [List.length_append,List.length_cons,List.length_nil];omega⟩,by omega⟩) N ([],0,c.i,c.h) ⟨Int.le_refl _,by simp,hc.2,by simp⟩ (by simp only;omega)
  rw [hr]
  obtain ⟨j1,j2⟩:=hJ
  obtain ⟨x1,i1,h1,e1,hi1,_⟩:=su (N:=N) (hc.to (h:=r.2.2.2) j1) 20
  simp only [e1,Option.bind_some,tZ (t:=r.1) (z:=(4:Int)) (by omega),tZ (t:=r.1) (z:=(0:Int)) (by omega)]
  cases x1==0
  · cases x1==1
    · exact ⟨_,i1,h1,rfl,hi1,by omega⟩
    · exact ⟨_,i1,h1,rfl,hi1,by simp only [List.length_append,List.length_cons,List.length_nil];omega⟩
  · exact ⟨_,i1,h1,rfl,hi1,by simp only [List.length_append,List.length_cons,List.length_nil];omega⟩
theorem DV {N:Nat} {c:iu} (hc:Cu c):∃ x i h,qo N c=some (x,⟨c.b,i,h⟩)∧0≤i:=by
  unfold qo
  obtain ⟨x,i,h,e,hi⟩:=BR (N:=N) hc 20
  simp only [e,Option.bind_some]
  cases x
  · obtain ⟨x1,i1,h1,e1,hi1,_⟩:=su (N:=N) (hc.to (h:=h) hi) 60
    simp only [cond_false,e1,Option.bind_some]
    exact ⟨_,i1,h1,rfl,hi1⟩
  · obtain ⟨x1,i1,h1,e1,hi1,_⟩:=w7 (N:=N) (hc.to (h:=h) hi) (l:=[-1,1000000,1000001,999999]) (by decide)
    simp only [cond_true,e1,Option.bind_some]
    exact ⟨_,i1,h1,rfl,hi1⟩
theorem IA {N:Nat} {c:iu} (hc:Cu c):∃ x i h,sB N c=some (x,⟨c.b,i,h⟩)∧0≤i:=by
  unfold sB
  obtain ⟨x1,i1,h1,e1,hi1⟩:=DV (N:=N) hc
  obtain ⟨x2,i2,h2,e2,hi2⟩:=DV (N:=N) (hc.to (h:=h1) hi1)
  obtain ⟨x3,i3,h3,e3,hi3⟩:=DV (N:=N) (hc.to (h:=h2) hi2)
  simp only [e1,e2,e3,Option.bind_some]
  exact ⟨_,i3,h3,rfl,hi3⟩
end Go.Kx
/- Plain laws: trees of reserves. No program in sight. -/
namespace Go.Kx
open Go
set_option linter.unusedVariables false
set_option linter.unusedSimpArgs false
set_option maxRecDepth 10000
def nth {α:Type} [iy α] (l:List α) (i:Int):α:=(l[i.toNat]?).getD iy.zero
theorem jy {α:Type} [iy α] {l:List α} {i:Int} (h0:0≤i) (h1:i<(l.length:Int)):idx l i=some (nth l i):=by
  have hz:l[i.toNat]?=some (l[i.toNat]'(by omega)):=List.getElem?_eq_getElem _
  unfold idx nth
  rw [if_pos h0,hz];rfl
theorem za {α:Type} [iy α] {l:List α} {i a b:Int} (h:iG i a b=true) (ha:0≤a) (hb:b<(l.length:Int)):idx l i=some (nth l i):=by
  rw [jE] at h
  exact jy (by omega) (by omega)
theorem BF {α:Type} [iy α] {l:List α} {k:Nat} {y:α} (h:l[k]?=some y):nth l (k:Int)=y:=by simp [nth,h]
theorem pI {α:Type} [iy α] {l:List α} {i:Int} (h0:0≤i) (h1:i<(l.length:Int)):nth l i ∈ l:=by
  have hz:l[i.toNat]?=some (l[i.toNat]'(by omega)):=List.getElem?_eq_getElem _
  unfold nth;rw [hz];exact List.getElem_mem _
theorem vV {α:Type} {l:List α} {n:Nat} (h:((l.length:Int) != (n:Int))=false):l.length=n:=by simp at h;omega
theorem tO (N:Nat) (a:Int):kX N a=some (iG a 0 4):=by unfold kX;rw [mI];rfl
theorem uy (N:Nat) (a:Int):lC N a=some (iG a 0 4):=by unfold lC;rw [l6];rfl
def jI (t:List iz) (i:Int):Bool:=iG i 0 4&&(nth t i).live
def up (t:List iz) (i:Int):Int:=(nth t i).parent
def leads (t:List iz):Nat→Int→Bool
  | 0,_=>false
  | n+1,i=>(i==0) || (jI t i&&leads t n (up t i))
def jR (t:List iz):Nat→Int→Int
  | 0,a=>a
  | n+1,a=>if a > 0 then jR t n (up t a) else a
theorem r7 (N:Nat) {t:List iz} (h:t.length=5) (i:Int):lL N t i=some (jI t i):=by
  unfold lL jI
  rw [tO,Option.bind_some]
  cases hi:iG i 0 4
  · rfl
  · simp only [cond_true,za hi (by omega) (show (4:Int)<(t.length:Int) by omega),Option.bind_some,Bool.true_and]
theorem IU {k:Nat} (h:k<(List.replicate 5 ()).length):k<5∧decide ((k:Int)<5)=true:=by
  have h:k<5:=by simpa using h
  exact ⟨h,by simp;omega⟩
theorem Ia {k n:Nat} {N:Nat} (hN:im≤N) (hn:n<16777216):(List.replicate n ()).length<N:=by
  have:16777216≤N:=hN
  simp;omega
theorem Ex {N:Nat} (hN:im≤N) {t:List iz} (h:t.length=5) (i:Int):rK N t i=some (leads t 5 i):=by
  unfold rK
  rw [show ((i,0):Int×Int)=(fun (k:Nat) (a:Int)=>(a,(k:Int))) 0 i from rfl,
    mY (List.replicate 5 ()) (fun (k:Nat) (a:Int)=>(a,(k:Int))) (fun _ a _=>if a==0 then .inr (.inr true) else if jI t a then .inl (up t a) else .inr (.inr false)) (fun a=>.inl (a,5)) (fun _ _=>True) ?_ ?_ (Ia (k:=0) hN (by decide)) trivial]
  · have key:∀ (n k:Nat) (a:Int),Sum.elim (fun _=>some false) (fun r20=>some r20) (lT (ρ:=(Int×Int)⊕Bool) (fun (_:Nat) a (_:Unit)=>if a==0 then .inr (.inr true) else if jI t a then .inl (up t a) else .inr (.inr false)) (fun a=>.inl (a,5)) k a (List.replicate n ()))=some (leads t n a):=by
      intro n
      induction n with
      | zero=>intro k a;rfl
      | succ n ih =>
        intro k a
        rw [List.replicate_succ]
        unfold lT leads
        cases h0:(a==0)
        · cases h1:jI t a
          · rfl
          · simpa using ih (k+1) (up t a)
        · rfl
    exact key 5 0 i
  · intro k a y hy hk _
    obtain ⟨h5,hd⟩:=IU hk
    refine ⟨?_,fun _ _=>trivial⟩
    simp only [hd,cond_true,r7 N h,Option.bind_some]
    cases h0:(a==0)
    · cases h1:jI t a
      · rfl
      · have hin:iG a 0 4=true:=by unfold jI at h1;simp at h1;exact h1.1
        simp only [za hin (by omega) (show (4:Int)<(t.length:Int) by omega),jD (show k<im from Nat.lt_trans h5 (by decide)),Option.bind_some]
        rfl
    · rfl
  · intro a _
    rfl
def uG:iz:=iz.mk false 0 (iC.mk 0 0 0)
def pT (t:List iz) (k:Nat) (r:iz):Bool:=if r.live then jl r.iX&&leads t 5 (k:Int) else decide (r=uG)
def jJ (s:iC) (t:List iz):iC:=t.foldl (fun s r=>if r.live then ja s r.iX else s) s
def kp (t:List iz):Bool:=!((t.length:Int) != 5)&&((nth t 0).live&&(!((nth t 0).parent != (-1))&&(allI (pT t) 0 t&&jl (jJ ⟨0,0,0⟩ t))))
theorem tx {N:Nat} (hN:im≤N) {t:List iz}:ma N t=some (kp t):=by
  unfold ma kp
  cases h5:((t.length:Int) != 5)
  · have hl:t.length=5:=vV (n:=5) h5
    have hB:t.length<im:=by rw [hl];decide
    rw [jy (l:=t) (i:=0) (by omega) (by omega)]
    simp only [cond_false,Option.bind_some,kG,Bool.not_false,Bool.true_and]
    cases h1:(nth t 0).live
    · rfl
    cases h2:((nth t 0).parent != (-1))
    · simp only [Bool.not_true,Bool.or_self,cond_false,Bool.true_and,Bool.not_false]
      rw [show ((0:Int),(0:Int),(0:Int),(0:Int))=(fun (k:Nat) (s:iC)=>((k:Int),s.bh,s.ig,s.iB)) 0 ⟨0,0,0⟩ from rfl,
        mY t (fun (k:Nat) (s:iC)=>((k:Int),s.bh,s.ig,s.iB)) (fun k s r=>if pT t k r then .inl (if r.live then ja s r.iX else s) else .inr (.inr false)) (fun s=>.inl ((t.length:Int),s.bh,s.ig,s.iB)) (fun _ _=>True) ?_ ?_ (Nat.lt_of_lt_of_le hB hN) trivial]
      · simp only [Option.bind_some,qM]
        have key:∀ (l:List iz) (k:Nat) (s:iC),Sum.elim (fun (o48:Int×Int×Int×Int)=>some (jl (iC.mk o48.2.1 o48.2.2.1 o48.2.2.2))) (fun r53=>some r53) (lT (fun k s r=>if pT t k r then .inl (if r.live then ja s r.iX else s) else .inr (.inr false)) (fun s=>.inl ((t.length:Int),s.bh,s.ig,s.iB)) k s l)=some (allI (pT t) k l&&jl (jJ s l)):=by
          intro l
          induction l with
          | nil=>intro k s;rfl
          | cons r l ih =>
            intro k s
            unfold lT allI
            cases hp:pT t k r
            · rfl
            · simpa [jJ] using ih (k+1) (if r.live then ja s r.iX else s)
        exact key t 0 _
      · intro k s r hy hk _
        refine ⟨?_,fun _ _=>trivial⟩
        simp only [jC hk,cond_true,iW,hy,Option.bind_some,qM,Ex hN hl,tq,kG,jD (Nat.lt_trans hk hB)]
        unfold pT
        cases hlv:r.live
        · show (bif !decide (r=uG) then _ else _)=_
          cases decide (r=uG) <;> rfl
        · cases jl r.iX <;> cases leads t 5 (k:Int) <;> rfl
      · intro s _
        simp only [jB,cond_false]
    · rfl
  · rfl
def p1 (t:List iz) (k:Nat) (r:iz):Bool:=!((!r.live&&!decide (r=uG)) || !jl r.iX)&&!(decide ((k:Int) > 0)&&(r.live&&(!iG r.parent 0 4 || (r.parent==(k:Int) || !(nth t r.parent).live))))
def p2 (t:List iz) (k:Nat) (r:iz):Bool:=!(r.live&&(jR t 5 (k:Int) != 0))
def Good (t:List iz):Prop:=∀ i:Int,0<i→i≤4→(nth t i).live=true→0≤up t i∧up t i≤4∧up t i ≠ i∧(nth t (up t i)).live=true
theorem CM {t:List iz} (hl:t.length=5) (h:allI (p1 t) 0 t=true):Good t:=by
  intro i h0 h4 hlv
  rw [n4] at h
  have hz:t[i.toNat]?=some (nth t i):=by
    have:=jy (l:=t) (i:=i) (by omega) (by omega)
    unfold idx at this
    rwa [if_pos (by omega)] at this
  have:=h _ _ hz
  have e:((0+i.toNat:Nat):Int)=i:=by omega
  unfold p1 at this
  rw [e] at this
  unfold up
  simp [hlv,iG] at this
  rcases this.2 with q | q
  · omega
  · exact ⟨q.1.1,q.1.2,q.2.1,q.2.2⟩
theorem zX {t:List iz} (hg:Good t):∀ (n:Nat) (a:Int),0≤a→a≤4→(nth t a).live=true→0≤jR t n a∧jR t n a≤4∧(nth t (jR t n a)).live=true
  | 0,a,h0,h4,hlv=>⟨h0,h4,hlv⟩
  | n+1,a,h0,h4,hlv=>by
    unfold jR
    by_cases ha:a > 0
    · rw [if_pos ha]
      obtain ⟨g1,g2,_,g4⟩:=hg a ha h4 hlv
      exact zX hg n _ g1 g2 g4
    · rw [if_neg ha];exact ⟨h0,h4,hlv⟩
theorem tQ (t:List iz):∀ (m n:Nat) (a:Int),jR t (m+n) a=jR t n (jR t m a)
  | 0,n,a=>by simp [jR]
  | m+1,n,a=>by
    rw [show m+1+n=(m+n)+1 by omega]
    show (if a > 0 then jR t (m+n) (up t a) else a)=jR t n (if a > 0 then jR t m (up t a) else a)
    by_cases ha:a > 0
    · rw [if_pos ha,if_pos ha,tQ t m n]
    · rw [if_neg ha,if_neg ha]
      cases n <;> simp [jR,ha]
theorem yG (t:List iz) (n:Nat):jR t n 0=0:=by cases n <;> simp [jR]
theorem vk {t:List iz} (hg:Good t):∀ (n:Nat) (a:Int),0≤a→a≤4→(nth t a).live=true→leads t (n+1) a=(jR t n a==0)
  | 0,a,h0,h4,hlv=>by simp [leads,jR]
  | n+1,a,h0,h4,hlv=>by
    rw [show leads t (n+1+1) a=((a==0) || (jI t a&&leads t (n+1) (up t a))) from rfl]
    unfold jR
    by_cases ha:a=0
    · subst ha;simp
    · have hp:a > 0:=by omega
      obtain ⟨g1,g2,_,g4⟩:=hg a hp h4 hlv
      rw [if_pos hp,vk hg n _ g1 g2 g4]
      have:jI t a=true:=by simp [jI,jE,hlv];omega
      have h0':(a==0)=false:=by simpa using ha
      rw [this,h0'];rfl
theorem FY {t:List iz} (hg:Good t) {a:Int} (h0:0≤a) (h4:a≤4) (hlv:(nth t a).live=true) (h:jR t 5 a=0):jR t 4 a=0:=by
  have key:∀ (i j:Nat),i+j≤5→jR t i a=jR t (i+j) a→jR t (5 - j) a=0:=by
    intro i j hij e
    have h1:jR t (5 - j) a=jR t (5 - j - i) (jR t i a):=by rw [← tQ];congr 1;omega
    have h2:jR t 5 a=jR t (5 - j - i) (jR t (i+j) a):=by rw [← tQ];congr 1;omega
    rw [h1,e, ← h2,h]
  have mono:∀ (i j:Nat),jR t i a=0→jR t (i+j) a=0:=by
    intro i j e
    rw [tQ,e,yG]
  rcases Decidable.em (jR t 4 a=0) with q | q
  · exact q
  exfalso
  have nz:∀ i,i≤4→jR t i a ≠ 0:=fun i hi e=>q (by have:=mono i (4 - i) e;rwa [show i+(4 - i)=4 by omega] at this)
  have xJ:∀ i,i≤4→1≤jR t i a∧jR t i a≤4:=fun i hi=>by
    obtain ⟨r1,r2,_⟩:=zX hg i a h0 h4 hlv
    have:=nz i hi
    omega
  have ne:∀ (i j:Nat),0<j→i+j≤4→jR t i a ≠ jR t (i+j) a:=fun i j hj hij e=>nz (5 - j) (by omega) (key i j (by omega) e)
  have r0:=xJ 0 (by omega)
  have r1:=xJ 1 (by omega)
  have r2:=xJ 2 (by omega)
  have r3:=xJ 3 (by omega)
  have r4:=xJ 4 (by omega)
  have n01:=ne 0 1 (by omega) (by omega)
  have n02:=ne 0 2 (by omega) (by omega)
  have n03:=ne 0 3 (by omega) (by omega)
  have n04:=ne 0 4 (by omega) (by omega)
  have n12:=ne 1 1 (by omega) (by omega)
  have n13:=ne 1 2 (by omega) (by omega)
  have n14:=ne 1 3 (by omega) (by omega)
  have n23:=ne 2 1 (by omega) (by omega)
  have n24:=ne 2 2 (by omega) (by omega)
  have n34:=ne 3 1 (by omega) (by omega)
  simp only [Nat.zero_add,Nat.reduceAdd] at *
  generalize jR t 0 a=c0 at *
  generalize jR t 1 a=c1 at *
  generalize jR t 2 a=c2 at *
  generalize jR t 3 a=c3 at *
  generalize jR t 4 a=c4 at *
  clear key mono nz xJ ne
  omega
theorem x5 {t:List iz} {a:Int} (ha:a ≠ 0) (hu:up t a=a):∀ n,leads t n a=false
  | 0=>rfl
  | n+1=>by
    unfold leads
    rw [hu,x5 ha hu n]
    simp [ha]
theorem Ed {t:List iz} (hl:t.length=5) (h0:(nth t 0).live=true):(allI (p1 t) 0 t&&allI (p2 t) 0 t)=allI (pT t) 0 t:=by
  have hget:∀ (i:Nat) (r:iz),t[i]?=some r→(i:Int)≤4∧nth t (i:Int)=r:=fun i r h=>⟨by have:=jx h;omega,BF h⟩
  rw [Bool.eq_iff_iff,Bool.and_eq_true]
  constructor
  · rintro ⟨h1,h2⟩
    have hg:=CM hl h1
    rw [n4] at h1 h2 ⊢
    intro i r hr
    obtain ⟨i4,hn⟩:=hget i r hr
    have q1:=h1 i r hr
    have q2:=h2 i r hr
    simp only [Nat.zero_add] at q1 q2 ⊢
    unfold p1 at q1
    unfold p2 at q2
    unfold pT
    cases hlv:r.live
    · simp [hlv] at q1
      simp [q1.1]
    · simp [hlv] at q1 q2
      have hlv':(nth t (i:Int)).live=true:=by rw [hn];exact hlv
      have:=FY hg (by omega) i4 hlv' q2
      simp only [if_true,Bool.and_eq_true]
      refine ⟨q1.1,?_⟩
      rw [vk hg 4 _ (by omega) i4 hlv',this];rfl
  · intro h
    rw [n4] at h
    have hp:∀ (i:Int),0≤i→i≤4→(nth t i).live=true→jl (nth t i).iX=true∧leads t 5 i=true:=by
      intro i hi hi4 hlv
      have hz:t[i.toNat]?=some (nth t i):=by
        have:=jy (l:=t) (i:=i) (by omega) (by omega)
        unfold idx at this
        rwa [if_pos (by omega)] at this
      have:=h _ _ hz
      unfold pT at this
      rw [if_pos hlv] at this
      have e:((0+i.toNat:Nat):Int)=i:=by omega
      rw [e] at this
      simpa using this
    have hg:Good t:=by
      intro i hi hi4 hlv
      obtain ⟨_,q⟩:=hp i (by omega) hi4 hlv
      have hne:up t i ≠ i:=fun e=>by rw [x5 (by omega) e] at q;cases q
      have hi0:(i==0)=false:=by simp;omega
      rw [show leads t 5 i=((i==0) || (jI t i&&leads t 4 (up t i))) from rfl,hi0] at q
      simp only [Bool.false_or,Bool.and_eq_true] at q
      rw [show leads t 4 (up t i)=((up t i==0) || (jI t (up t i)&&leads t 3 (up t (up t i)))) from rfl] at q
      rcases Decidable.em (up t i=0) with e | e
      · rw [e];exact ⟨by omega,by omega,by omega,h0⟩
      · have e':(up t i==0)=false:=by simpa using e
        rw [e'] at q
        simp only [Bool.false_or,Bool.and_eq_true] at q
        have:=q.2.1
        simp only [jI,Bool.and_eq_true,jE] at this
        exact ⟨this.1.1,this.1.2,hne,this.2⟩
    rw [n4,n4]
    refine ⟨fun i r hr=>?_,fun i r hr=>?_⟩
    · obtain ⟨i4,hn⟩:=hget i r hr
      have q:=h i r hr
      simp only [Nat.zero_add] at q ⊢
      unfold p1
      unfold pT at q
      cases hlv:r.live
      · simp [hlv] at q
        subst q
        simp;decide
      · simp [hlv] at q
        simp [q.1]
        by_cases hi:i=0
        · exact .inl hi
        · have:=hg (i:Int) (by omega) i4 (by rw [hn];exact hlv)
          unfold up at this
          rw [hn] at this
          exact .inr ⟨jE.2 ⟨this.1,this.2.1⟩,this.2.2.1,this.2.2.2⟩
    · obtain ⟨i4,hn⟩:=hget i r hr
      simp only [Nat.zero_add]
      unfold p2
      cases hlv:r.live
      · rfl
      · have hlv':(nth t (i:Int)).live=true:=by rw [hn];exact hlv
        obtain ⟨_,q⟩:=hp (i:Int) (by omega) i4 hlv'
        rw [vk hg 4 _ (by omega) i4 hlv'] at q
        have q:jR t 4 (i:Int)=0:=by simpa using q
        have:jR t 5 (i:Int)=0:=by rw [show 5=4+1 from rfl,tQ,q,yG]
        simp [this]
theorem zv {N:Nat} (hN:im≤N) {t:List iz} (hB:t.length<im):qi N t=some (jJ ⟨0,0,0⟩ t):=by
  unfold qi jJ
  rw [show ((0:Int),(0:Int),(0:Int),(0:Int))=(fun (k:Nat) (s:iC)=>((k:Int),s.bh,s.ig,s.iB)) 0 ⟨0,0,0⟩ from rfl,
    kV t (fun (k:Nat) (s:iC)=>((k:Int),s.bh,s.ig,s.iB)) (fun _ s r=>if r.live then ja s r.iX else s) (fun s=>((t.length:Int),s.bh,s.ig,s.iB)) (fun _ _=>True) ?_ ?_ (Nat.lt_of_lt_of_le hB hN) trivial,l8]
  · rfl
  · intro k s r hy hk _
    refine ⟨?_,trivial⟩
    simp only [jC hk,cond_true,iW,hy,Option.bind_some,jD (Nat.lt_trans hk hB)]
    cases r.live <;> rfl
  · intro s _
    simp only [jB,cond_false]
theorem Ff {N:Nat} (hN:im≤N) {t:List iz} (hl:t.length=5) (hg:Good t) {k:Nat} {r:iz} (hr:t[k]?=some r) :
    ∃ n,iter (fun (s72:Int×Int)=>((bif (decide (s72.2<5)) then ((idx t (k:Int)).bind fun y77=>bif y77.live then (some (decide (s72.1 > 0))) else (some false)) else (some false):Option Bool).bind fun j74=>bif j74 then ((idx t s72.1).bind fun y89=>some (.inl (y89.parent,IntKind.i64.wrap (s72.2+1)))) else (some (.inr (s72.1,s72.2))):Option ((Int×Int)⊕(Int×Int)))) N ((k:Int),0)=some (if r.live then jR t 5 (k:Int) else (k:Int),n):=by
  have hk:=jx hr
  rw [show (((k:Int),0):Int×Int)=(fun (n:Nat) (a:Int)=>(a,(n:Int))) 0 (k:Int) from rfl,
    mY (List.replicate 5 ()) (fun (n:Nat) (a:Int)=>(a,(n:Int))) (fun n a _=>if r.live&&decide (a > 0) then .inl (up t a) else .inr (a,(n:Int))) (fun a=>(a,5)) (fun _ a=>r.live=true→0≤a∧a≤4∧(nth t a).live=true) ?_ ?_ (Ia (k:=0) hN (by decide)) (fun h=>⟨by omega,by omega,by rw [BF hr];exact h⟩)]
  · have key:∀ (n j:Nat) (a:Int),(lT (ρ:=Int×Int) (fun (n:Nat) a (_:Unit)=>if r.live&&decide (a > 0) then .inl (up t a) else .inr (a,(n:Int))) (fun a=>(a,5)) j a (List.replicate n ())).1=if r.live then jR t n a else a:=by
      intro n
      induction n with
      | zero=>intro j a;simp [lT,jR]
      | succ n ih =>
        intro j a
        rw [List.replicate_succ]
        unfold lT jR
        cases hlv:r.live
        · rfl
        · have ih:=ih (j+1) (up t a)
          rw [hlv] at ih
          by_cases ha:a > 0
          · simpa [ha] using ih
          · simp [ha]
    have:=key 5 0 (k:Int)
    exact ⟨_,congrArg some (Prod.ext this rfl)⟩
  · intro n a y hy hn hI
    obtain ⟨h5,hd⟩:=IU hn
    simp only [hd,cond_true,iW,hr,Option.bind_some]
    cases hlv:r.live
    · exact ⟨rfl,fun t' h=>by simp at h⟩
    · obtain ⟨i1,i2,i3⟩:=hI hlv
      by_cases ha:a > 0
      · have hd2:decide (a > 0)=true:=by simpa using ha
        simp only [cond_true,hd2,Option.bind_some,jy (l:=t) (i:=a) i1 (by omega),jD (show n<im from Nat.lt_trans h5 (by decide)),Bool.and_self,if_true]
        refine ⟨rfl,fun t' h _=>?_⟩
        cases h
        obtain ⟨g1,g2,_,g4⟩:=hg a ha i2 i3
        exact ⟨g1,g2,g4⟩
      · have hd2:decide (a > 0)=false:=by simpa using ha
        simp only [cond_true,hd2,Option.bind_some,cond_false]
        exact ⟨rfl,fun t' h=>by simp at h⟩
  · intro a _
    rfl
theorem v9 {N:Nat} (hN:im≤N) {t:List iz}:nC N t=some (kp t):=by
  unfold nC kp
  cases h5:((t.length:Int) != 5)
  · have hl:t.length=5:=vV (n:=5) h5
    have hB:t.length<im:=by rw [hl];decide
    rw [jy (l:=t) (i:=0) (by omega) (by omega)]
    simp only [cond_false,Option.bind_some,kG,Bool.not_false,Bool.true_and]
    cases h1:(nth t 0).live
    · rfl
    cases h2:((nth t 0).parent != (-1))
    · simp only [Bool.not_true,Bool.or_self,cond_false,Bool.true_and,Bool.not_false]
      rw [kj t (p1 t) (.inl (t.length:Int)) (.inr false) (Nat.lt_of_lt_of_le hB hN), ← Ed hl h1]
      · simp only [Option.bind_some]
        cases hp:allI (p1 t) 0 t
        · rfl
        · have hg:=CM hl hp
          simp only [if_true,Sum.elim_inl,Bool.true_and]
          rw [kj t (p2 t) (.inl (t.length:Int)) (.inr false) (Nat.lt_of_lt_of_le hB hN)]
          · simp only [Option.bind_some,zv hN hB,qZ]
            cases allI (p2 t) 0 t <;> rfl
          · intro k r hy hk
            obtain ⟨n,hn⟩:=Ff hN hl hg hy
            simp only [jC hk,cond_true]
            rw [hn]
            simp only [iW,hy,Option.bind_some,jD (Nat.lt_trans hk hB)]
            unfold p2
            cases hlv:r.live
            · rfl
            · simp only [cond_true,Option.bind_some,if_true,Bool.true_and]
              cases (jR t 5 (k:Int) != 0) <;> rfl
          · simp only [jB,cond_false]
      · intro k r hy hk
        simp only [jC hk,cond_true,iW,hy,Option.bind_some,qZ,uy,kG,jD (Nat.lt_trans hk hB)]
        unfold p1
        rw [show iz.mk false 0 (iC.mk 0 0 0)=uG from rfl]
        cases hin:iG r.parent 0 4
        · cases r.live <;> cases decide (r=uG) <;> cases jl r.iX <;> cases decide ((k:Int) > 0) <;> rfl
        · rw [za hin (by omega) (show (4:Int)<(t.length:Int) by omega)]
          simp only [Option.bind_some]
          cases r.live <;> cases decide (r=uG) <;> cases jl r.iX <;> cases decide ((k:Int) > 0) <;> cases (r.parent==(k:Int)) <;> cases (nth t r.parent).live <;> rfl
      · simp only [jB,cond_false]
    · rfl
  · rfl
end Go.Kx
/- Plain laws of what is told alike: labels, things, parts, worlds. No program in sight. -/
namespace Go.Kx
open Go
set_option linter.unusedVariables false
set_option linter.unusedSimpArgs false
set_option maxRecDepth 10000
theorem xU {N:Nat} (hN:im≤N) {a b:List Int} (ha:a.length<im):pc N a b=some (decide (a=b)):=Di a b (· != ·) (by intro y z;by_cases h:y=z <;> simp [h]) ha hN
theorem Ct {N:Nat} (hN:im≤N) {a b:List iU} (ha:a.length<im):rT N a b=some (decide (a=b)):=Di a b (fun y z=>!decide (y=z)) (fun _ _=>rfl) ha hN
theorem yz {o:cd} (h:iD o<im):o.ij.length<im∧o.data.length<im∧o.queue.length<im:=by unfold iD at h;omega
theorem ES {N:Nat} (hN:im≤N) {a b:cd} (ha:iD a<im):rN N a b=some (decide (a=b)):=by
  obtain ⟨h1,h2,h3⟩:=yz ha
  unfold rN
  simp only [xU hN h1,xU hN h2,Ct hN h3,Option.bind_some,lu]
  congr 1
  rw [Bool.eq_iff_iff]
  cases a;cases b
  simp [cd.mk.injEq]
theorem kg {p:hZ} (h:jd p<im):p.label.levels.length<im∧p.own.length<im∧p.tree.length<im∧jo iD p.heap.ag<im∧p.heap.gc.ia.length<im∧p.ic.length<im:=by
  unfold jd oW tY lQ at h;omega
end Go.Kx
/- Plain laws: copies are what they copy. No program in sight. -/
namespace Go.Kx
open Go
set_option linter.unusedVariables false
set_option linter.unusedSimpArgs false
set_option maxRecDepth 10000
theorem jQ {α:Type} {l:List α} (h:l.length<im):app ([]:List α) l=some l:=by
  unfold app;rw [if_pos (by simpa using h)];rfl
theorem sU {N:Nat} {l:List Int} (h:l.length<im):lM N l=some l:=by unfold lM;rw [jQ h];rfl
theorem CH {N:Nat} {l:jf} (h:l.levels.length<im):o9 N l=some l:=by unfold o9;rw [sU h];rfl
theorem oO {N:Nat} {l:List iz} (h:l.length<im):lk N l=some l:=by unfold lk;rw [jQ h];rfl
theorem pX {N:Nat} {l:List iz} (h:l.length<im):ll N l=some l:=by unfold ll;rw [jQ h];rfl
theorem Au {N:Nat} {o:cd} (h:iD o<im):pn N o=some o:=by
  obtain ⟨h1,h2,h3⟩:=yz h
  unfold pn
  simp only [sU h1,sU h2,jQ h3,Option.bind_some]
theorem CK {N:Nat} {o:cd} (h:iD o<im):sf N o=some o:=by
  obtain ⟨h1,h2,h3⟩:=yz h
  unfold sf
  simp only [jQ h1,jQ h2,jQ h3,Option.bind_some]
theorem vq {N:Nat} (hN:im≤N) {l:List cd} (hb:jo iD l<im):mK N l=some l:=by
  have hl:=kY hb
  unfold mK
  rw [r8 l (fun _ _=>true) (fun _ y=>y) hl hN,uD (fun _=>true)]
  · simp
  · intro k t y hy hk ht
    simp only [jC hk,cond_true,iW,hy,Option.bind_some,Au (jM hb (List.mem_of_getElem? hy)),jD (Nat.lt_trans hk hl),kS ht (Nat.lt_of_le_of_lt hk hl)]
    rfl
  · intro t
    simp only [jB,cond_false]
theorem yb {N:Nat} (hN:im≤N) {l:List cd} (hb:jo iD l<im):nN N l=some l:=by
  have hl:=kY hb
  unfold nN
  rw [r8 l (fun _ _=>true) (fun _ y=>y) hl hN,uD (fun _=>true)]
  · simp
  · intro k t y hy hk ht
    simp only [jC hk,cond_true,iW,hy,Option.bind_some,CK (jM hb (List.mem_of_getElem? hy)),jD (Nat.lt_trans hk hl),kS ht (Nat.lt_of_le_of_lt hk hl)]
    rfl
  · intro t
    simp only [jB,cond_false]
theorem wm {N:Nat} (hN:im≤N) {h:ir} (h1:jo iD h.ag<im) (h2:h.gc.ia.length<im):nq N h=some h:=by
  unfold nq
  simp only [vq hN h1,sU h2,Option.bind_some]
theorem uZ {N:Nat} (hN:im≤N) {h:ir} (h1:jo iD h.ag<im) (h2:h.gc.ia.length<im):m8 N h=some h:=by
  unfold m8
  simp only [yb hN h1,jQ h2,Option.bind_some]
theorem vY {N:Nat} (hN:im≤N) {p:hZ} (h:jd p<im):lh N p=some p:=by
  obtain ⟨h1,h2,h3,h4,h5,h6⟩:=kg h
  unfold lh
  simp only [CH h1,sU h2,oO h3,wm hN h4 h5,jQ h6,Option.bind_some]
theorem wV {N:Nat} (hN:im≤N) {p:hZ} (h:jd p<im):nV N p=some p:=by
  obtain ⟨h1,h2,h3,h4,h5,h6⟩:=kg h
  unfold nV
  simp only [jQ h1,jQ h2,pX h3,uZ hN h4 h5,jQ h6,Option.bind_some]
theorem vP {α:Type} {l:List α} {k:Nat} (h:k≤l.length):sub l 0 (k:Int)=some (l.take k):=by
  unfold sub
  rw [if_pos ⟨Int.le_refl _,by omega,by omega⟩]
  simp
theorem zL {α:Type} (f:α→Nat):∀ (l:List α) (k:Nat),oG f (l.take k)≤oG f l
  | [],k=>by simp
  | y::l,0=>Nat.zero_le _
  | y::l,k+1=>by
    have:=zL f l k
    simp only [List.take_succ_cons,oG];omega
theorem F8 {α:Type} (f:α→Nat) (l:List α) (k:Nat):jo f (l.take k)≤jo f l:=by
  have:=zL f l k
  unfold jo
  simp only [List.length_take];omega
end Go.Kx
/- Plain laws: things, arenas, heaps, ic, parts: what is right. No program in sight. -/
namespace Go.Kx
open Go
set_option linter.unusedVariables false
set_option linter.unusedSimpArgs false
set_option maxRecDepth 10000
theorem oL {α:Type} (p:Bool) (a b:α):(bif p then some a else some b)=some (bif p then a else b):=by cases p <;> rfl
theorem yn {ρ τ β:Type} (c:Bool) (a:ρ) (r:τ) (f:ρ→Option β) (g:τ→Option β):Sum.elim f g (if c then .inl a else .inr r)=if c then f a else g r:=by cases c <;> rfl
theorem yg (N:Nat) (a:Int):oU N a=some (iG a 0 2):=by unfold oU;rw [mI];rfl
theorem tw (N:Nat) (a:Int):ml N a=some (iG a 0 9):=by unfold ml;rw [mI];rfl
theorem uT (N:Nat) (a:Int):kZ N a=some (iG a 0 1000000):=by unfold kZ;rw [mI];rfl
theorem oX (N:Nat) (a:Int):kW N a=some (iG a 0 29999):=by unfold kW;rw [mI];rfl
theorem qS (N:Nat) (a:Int):kJ N a=some (iG a 0 29999):=by unfold kJ;rw [l6];rfl
theorem rW (N:Nat) (a:Int):lp N a=some (iG a 0 9):=by unfold lp;rw [l6];rfl
def wj (m:iU):Bool:=!(bif (m.src != (-1)) then (!iG m.src 0 29999 || !iG m.n 0 999) else !iG m.n 0 999)
def sd (o:cd):Bool:=o.ij.all (fun y=>iG y (-1) 9)&&(o.data.all (fun y=>iG y 0 999)&&(o.queue.all wj&&(((o.ij.length:Int)==2)&&(((o.data.length:Int)==(bif o.kind==2 then o.bh else 0))&&decide ((o.queue.length:Int)≤(bif o.kind==3 then 2 else 0))))))
theorem E8 {N:Nat} (hN:im≤N) {o:cd} (ho:iD o<im):rz N o=some (sd o):=by
  obtain ⟨h1,h2,h3⟩:=yz ho
  unfold rz sd
  rw [kj o.ij (fun _ y=>iG y (-1) 9) (.inl (o.ij.length:Int)) (.inr false) (Nat.lt_of_lt_of_le h1 hN),kF,Option.bind_some]
  · cases o.ij.all fun y=>iG y (-1) 9
    · rfl
    simp only [if_true,Sum.elim_inl,Bool.true_and]
    rw [kj o.data (fun _ y=>iG y 0 999) (.inl (o.data.length:Int)) (.inr false) (Nat.lt_of_lt_of_le h2 hN),kF,Option.bind_some]
    · cases o.data.all fun y=>iG y 0 999
      · rfl
      simp only [if_true,Sum.elim_inl,Bool.true_and]
      rw [kj o.queue (fun _ y=>wj y) (.inl (o.queue.length:Int)) (.inr false) (Nat.lt_of_lt_of_le h3 hN),kF,Option.bind_some]
      · cases o.queue.all wj
        · rfl
        simp only [if_true,Sum.elim_inl,Bool.true_and,oL,Option.bind_some]
        congr 1
        cases ((o.ij.length:Int)==2) <;> cases ((o.data.length:Int)==(bif o.kind==2 then o.bh else 0)) <;> simp
      · intro k y hy hk
        simp only [jC hk,cond_true,iW,hy,Option.bind_some,mI,oX,kG,oL,jD (Nat.lt_trans hk h3)]
        unfold wj
        cases (y.src != (-1)) <;> cases iG y.src 0 29999 <;> cases iG y.n 0 999 <;> rfl
      · simp only [jB,cond_false]
    · intro k y hy hk
      simp only [jC hk,cond_true,iW,hy,Option.bind_some,mI,jD (Nat.lt_trans hk h2)]
      cases iG y 0 999 <;> rfl
    · simp only [jB,cond_false]
  · intro k y hy hk
    simp only [jC hk,cond_true,iW,hy,Option.bind_some,mI,jD (Nat.lt_trans hk h1)]
    cases iG y (-1) 9 <;> rfl
  · simp only [jB,cond_false]
def blank (g:Int):cd:=cd.mk g 0 0 0 0 0 0 0 0 false [] [] []
def ku (o:cd):Bool:=iG o.gen 0 999&&(iG o.kind 0 4&&(bif o.kind==0 then decide (o=blank o.gen) else
  iG o.box (-1) 9&&(iG o.res 0 4&&(iG o.iP 0 1000000&&(iG o.bh 0 8&&(sd o&&(bif o.kind != 4 then (o.wait==0&&(o.iN==0&&o.iO==0)) else
    (o.wait==0 || iG (IntKind.i64.wrap (o.wait - 1)) 0 29999)&&(iG o.iN (-1) 999&&iG o.iO 0 1000000))))))))
theorem C5 {N:Nat} (hN:im≤N) {o:cd} (ho:iD o<im):sq N o=some (ku o):=by
  unfold sq ku
  simp only [mI,tO,uT,oX,E8 hN ho,ES hN ho,Option.bind_some,kG,lu,oL]
  rw [show cd.mk o.gen 0 0 0 0 0 0 0 0 false [] [] []=blank o.gen from rfl]
  congr 1
  simp only [Bool.cond_true_left,Bool.cond_false_left,Bool.cond_true_right,Bool.cond_false_right,Bool.not_or,Bool.not_not,Bool.and_assoc]
  cases o.wait==0 <;> rfl
def mR (o:cd):Prop:=-9223372036854775808≤o.wait
theorem FW {n:Int} (h:-9223372036854775808≤n) (h0:n<0):iG (IntKind.i64.wrap (n - 1)) 0 29999=false:=by
  rcases Decidable.em (n=-9223372036854775808) with e | e
  · subst e;decide
  · rw [i9 (by omega) (by omega)]
    simp [iG];omega
def zd (o:cd):Bool:=bif o.kind != 4 then (o.wait==0&&(o.iN==0&&o.iO==0)) else
    (o.wait==0 || iG (IntKind.i64.wrap (o.wait - 1)) 0 29999)&&(iG o.iN (-1) 999&&iG o.iO 0 1000000)
theorem Ie {o : cd} (hw : mR o) (hr : iG o.iO 0 1000000 = true) : (bif o.kind != 4 then bif o.wait != 0 then true else bif o.iN != 0 then true else bif o.iO != 0 then true else bif o.kind == 4 then
      bif decide (o.wait < 0) then true else bif decide (o.wait > 0) then !iG (IntKind.i64.wrap (o.wait - 1)) 0 29999 || !iG o.iN (-1) 999 else !iG o.iN (-1) 999 else false
    else bif o.kind == 4 then bif decide (o.wait < 0) then true else bif decide (o.wait > 0) then !iG (IntKind.i64.wrap (o.wait - 1)) 0 29999 || !iG o.iN (-1) 999 else !iG o.iN (-1) 999 else false) = !zd o := by
  unfold zd
  simp only [bne, hr]
  cases o.kind == 4
  · simp only [Bool.not_false, cond_true, cond_false]
    cases o.wait == 0 <;> cases o.iN == 0 <;> cases o.iO == 0 <;> rfl
  · simp only [Bool.not_true, cond_true, cond_false]
    rcases Int.lt_trichotomy o.wait 0 with h | h | h
    · have e1 : decide (o.wait < 0) = true := by simpa using h
      have e2 : (o.wait == 0) = false := by simp; omega
      rw [e1, e2, FW hw h]; rfl
    · simp only [h]
      cases iG o.iN (-1) 999 <;> rfl
    · have e1 : decide (o.wait < 0) = false := by simp; omega
      have e2 : (o.wait == 0) = false := by simp; omega
      have e3 : decide (o.wait > 0) = true := by simpa using h
      rw [e1, e2, e3]
      cases iG (IntKind.i64.wrap (o.wait - 1)) 0 29999 <;> cases iG o.iN (-1) 999 <;> rfl
theorem Hn (o:cd):(bif (o.data.length:Int) != 0 then bif o.kind != 2 then true else bif (o.data.length:Int) != o.bh then true else bif o.kind==2 then (o.data.length:Int) != o.bh else false
    else bif o.kind==2 then (o.data.length:Int) != o.bh else false)=!((o.data.length:Int)==(bif o.kind==2 then o.bh else 0)):=by
  simp only [bne]
  cases o.kind==2 <;> cases h:((o.data.length:Int)==0) <;> cases h2:((o.data.length:Int)==o.bh) <;> simp [h,h2]
theorem G8 (o:cd):(bif decide ((o.queue.length:Int) > 2) then true else bif decide ((o.queue.length:Int) > 0) then o.kind != 3 else false)=!decide ((o.queue.length:Int)≤(bif o.kind==3 then 2 else 0)):=by
  simp only [bne]
  cases o.kind==3
  · simp only [cond_false]
    rcases Nat.lt_trichotomy o.queue.length 0 with h | h | h
    · omega
    · simp [h]
    · rw [decide_eq_true (show (o.queue.length:Int) > 0 by omega),decide_eq_false (show ¬ ((o.queue.length:Int)≤0) by omega)]
      cases decide ((o.queue.length:Int) > 2) <;> rfl
  · simp only [cond_true]
    rcases Nat.lt_or_ge 2 o.queue.length with h | h
    · rw [decide_eq_true (show (o.queue.length:Int) > 2 by omega),decide_eq_false (show ¬ ((o.queue.length:Int)≤2) by omega)];rfl
    · rw [decide_eq_false (show ¬ ((o.queue.length:Int) > 2) by omega),decide_eq_true (show (o.queue.length:Int)≤2 by omega)]
      cases decide ((o.queue.length:Int) > 0) <;> rfl
theorem CQ {N:Nat} (hN:im≤N) {o:cd} (ho:iD o<im) (hw:mR o):so N o=some (ku o):=by
  obtain ⟨h1,h2,h3⟩:=yz ho
  unfold so ku
  rw [l6,Option.bind_some]
  cases hg:iG o.gen 0 999
  · rfl
  simp only [Bool.not_true,cond_false,Bool.true_and]
  cases hk0:o.kind==0
  · simp only [cond_false,l6,uy,Option.bind_some,kG]
    have hk0':o.kind ≠ 0:=by simpa using hk0
    cases hA:(!iG o.kind 1 4 || (!iG o.box (-1) 9 || (!iG o.res 0 4 || (!iG o.iP 0 1000000 || (!iG o.bh 0 8 || ((o.ij.length:Int) != 2 || !iG o.iO 0 1000000))))))
    · simp only [Bool.or_eq_false_iff,Bool.not_eq_false',bne_eq_false_iff_eq] at hA
      obtain ⟨a1,a2,a3,a4,a5,a6,a7⟩:=hA
      have a1':iG o.kind 0 4=true:=by rw [jE] at a1 ⊢;omega
      have hl2:o.ij.length=2:=by omega
      simp only [cond_false,a1',a2,a3,a4,a5,Bool.true_and]
      rw [kj o.ij (fun _ y=>iG y (-1) 9) (.inl (2:Int)) (.inr false) (Nat.lt_of_lt_of_le h1 hN),kF,Option.bind_some,yn]
      · unfold sd
        cases hL:o.ij.all fun y=>iG y (-1) 9
        · rfl
        have e6:((o.ij.length:Int)==2)=true:=by simp [a6]
        simp only [if_true,Bool.true_and,e6]
        simp only [qS,Option.bind_some,oL]
        rw [Ie hw a7,Hn o]
        rw [show (bif o.kind != 4 then (o.wait==0&&(o.iN==0&&o.iO==0)) else (o.wait==0 || iG (IntKind.i64.wrap (o.wait - 1)) 0 29999)&&(iG o.iN (-1) 999&&iG o.iO 0 1000000))=zd o from rfl]
        cases zd o
        · simp
        cases ((o.data.length:Int)==(bif o.kind==2 then o.bh else 0))
        · simp
        simp only [Bool.not_true,cond_false,Bool.and_true,Bool.true_and]
        rw [kj o.data (fun _ y=>iG y 0 999) (.inl (o.data.length:Int)) (.inr false) (Nat.lt_of_lt_of_le h2 hN),kF,Option.bind_some,yn,G8 o]
        · cases o.data.all fun y=>iG y 0 999
          · rfl
          simp only [if_true,Bool.true_and]
          cases decide ((o.queue.length:Int)≤(bif o.kind==3 then 2 else 0))
          · simp
          simp only [Bool.not_true,cond_false,Bool.and_true]
          rw [kj o.queue (fun _ y=>wj y) (.inl (o.queue.length:Int)) (.inr false) (Nat.lt_of_lt_of_le h3 hN),kF,Option.bind_some,yn]
          · cases o.queue.all wj <;> rfl
          · intro k y hy hk
            simp only [jC hk,cond_true,iW,hy,Option.bind_some,jD (Nat.lt_trans hk h3)]
            unfold wj
            cases (y.src != (-1)) <;> cases iG y.src 0 29999 <;> cases iG y.n 0 999 <;> rfl
          · simp only [jB,cond_false]
        · intro k y hy hk
          simp only [jC hk,cond_true,iW,hy,Option.bind_some,jD (Nat.lt_trans hk h2)]
          cases iG y 0 999 <;> rfl
        · simp only [jB,cond_false]
      · intro k y hy hk
        have hd:decide ((k:Int)<2)=true:=by simp;omega
        simp only [hd,cond_true,iW,hy,Option.bind_some,l6,jD (Nat.lt_trans hk h1)]
        cases iG y (-1) 9 <;> rfl
      · simp [hl2]
    · simp only [cond_true]
      congr 1
      symm
      rw [Bool.eq_false_iff]
      intro h
      simp only [sd,Bool.and_eq_true,jE,beq_iff_eq] at h
      obtain ⟨b0,b1,b2,b3,b4,⟨_,_,_,b5,_,_⟩,b6⟩:=h
      have q1:iG o.kind 1 4=true:=by rw [jE];omega
      have q2:iG o.box (-1) 9=true:=by rw [jE];omega
      have q3:iG o.res 0 4=true:=by rw [jE];omega
      have q4:iG o.iP 0 1000000=true:=by rw [jE];omega
      have q5:iG o.bh 0 8=true:=by rw [jE];omega
      have q6:((o.ij.length:Int) != 2)=false:=by simp [b5]
      have q7:iG o.iO 0 1000000=true:=by
        cases h4:o.kind != 4
        · rw [h4] at b6
          simp only [cond_false,Bool.and_eq_true] at b6
          exact b6.2.2
        · rw [h4] at b6
          simp only [cond_true,Bool.and_eq_true,beq_iff_eq] at b6
          rw [b6.2.2];decide
      simp [q1,q2,q3,q4,q5,q6,q7] at hA
  · have hk:o.kind=0:=by simpa using hk0
    simp only [cond_true,lu,Option.bind_some]
    congr 1
    rw [Bool.eq_iff_iff]
    obtain ⟨_,_,_,_,_,_,_,_,_,_,_,_,_⟩:=o
    simp only at hk
    subst hk
    simp [blank,iG]
end Go.Kx
/- Plain laws: arenas, heaps, ic, parts: what is right. No program in sight. -/
namespace Go.Kx
open Go
set_option linter.unusedVariables false
set_option linter.unusedSimpArgs false
set_option maxRecDepth 10000
theorem tE {o:cd} (h:ku o=true):o.ij.length≤2∧∀ y,y ∈ o.ij→-1≤y∧y≤9:=by
  unfold ku at h
  cases hk:o.kind==0
  · simp only [hk,cond_false,Bool.and_eq_true] at h
    obtain ⟨_,_,_,_,_,_,hl,_⟩:=h
    unfold sd at hl
    simp only [Bool.and_eq_true,List.all_eq_true,jE,beq_iff_eq] at hl
    exact ⟨by omega,hl.1⟩
  · simp only [hk,cond_true,Bool.and_eq_true,decide_eq_true_eq] at h
    rw [h.2.2];simp [blank]
theorem Fg {o:cd} (h:ku o=true) (hk:(o.kind != 0)=true):iG o.box (-1) 9=true∧iG o.res 0 4=true∧iG o.iP 0 1000000=true∧iG o.bh 0 8=true:=by
  unfold ku at h
  have hk:(o.kind==0)=false:=by simpa [bne] using hk
  simp only [hk,cond_false,Bool.and_eq_true] at h
  exact ⟨h.2.2.1,h.2.2.2.1,h.2.2.2.2.1,h.2.2.2.2.2.1⟩
def tP (l:List cd) (i:Int):Bool:=(nth l i).kind==0
def uL (l:List cd) (o:cd):Bool:=o.ij.all fun y=>!(decide (y ≥ 0)&&tP l y)
def sS (l:List cd) (k:Nat) (o:cd):Bool:=(ku o&&!(decide ((k:Int) > 0)&&(o.kind != 0&&(decide (o.box ≥ 0)&&tP l o.box))))&&uL l o
def uq (l:List cd):Bool:=((nth l 0).kind != 1) || (((nth l 0).box != (-1)) || ((nth l 0).iP != 1000000))
def kh (l:List cd):Bool:=!((l.length:Int) != 10)&&(!uq l&&allI (sS l) 0 l)
theorem Ae {N:Nat} (hN:im≤N) {l:List cd} (hl:l.length=10) {o:cd} (ho:o.ij.length≤2) (hr:∀ y,y ∈ o.ij→-1≤y∧y≤9) :
    iter (fun (s75:Int)=>(bif (decide (s75<(o.ij.length:Int))) then ((idx o.ij s75).bind fun y96=>(bif (decide (y96 ≥ 0)) then ((idx l y96).bind fun y108=>some (y108.kind==0)) else (some false):Option Bool).bind fun j105=>bif j105 then (some (.inr (.inr false))) else (some (.inl (IntKind.i64.wrap (s75+1))))) else (some (.inr (.inl s75))):Option (Int⊕(Int⊕Bool)))) N 0=some (if uL l o then .inl (o.ij.length:Int) else .inr false):=by
  have hB:o.ij.length<im:=Nat.lt_of_le_of_lt ho (by decide)
  rw [kj o.ij (fun _ y=>!(decide (y ≥ 0)&&tP l y)) (.inl (o.ij.length:Int)) (.inr false) (Nat.lt_of_lt_of_le hB hN),kF]
  · rfl
  · intro k y hy hk
    have hm:=hr y (List.mem_of_getElem? hy)
    simp only [jC hk,cond_true,iW,hy,Option.bind_some,jD (Nat.lt_trans hk hB)]
    cases h0:decide (y ≥ 0)
    · rfl
    · have h0:y ≥ 0:=by simpa using h0
      simp only [cond_true,jy (l:=l) (i:=y) h0 (by omega),Option.bind_some,Bool.true_and]
      unfold tP
      cases (nth l y).kind==0 <;> rfl
  · simp only [jB,cond_false]
theorem Dm {l:List cd} (hl:l.length=10) {o:cd} (ho:ku o=true):(bif (decide (o.box ≥ 0)) then ((idx l o.box).bind fun y58=>some (y58.kind==0)) else (some false):Option Bool)=some (decide (o.box ≥ 0)&&tP l o.box)∨(o.kind != 0)=false:=by
  cases hk:o.kind != 0
  · exact .inr rfl
  · left
    obtain ⟨hb,_⟩:=Fg ho hk
    rw [jE] at hb
    cases h0:decide (o.box ≥ 0)
    · rfl
    · have h0:o.box ≥ 0:=by simpa using h0
      simp only [cond_true,jy (l:=l) (i:=o.box) h0 (by omega),Option.bind_some,Bool.true_and];rfl
theorem uY {N:Nat} (hN:im≤N) {l:List cd} (hb:jo iD l<im):m7 N l=some (kh l):=by
  have hlB:=kY hb
  unfold m7 kh
  cases h10:((l.length:Int) != 10)
  · have hl:l.length=10:=vV (n:=10) h10
    rw [jy (l:=l) (i:=0) (by omega) (by omega)]
    simp only [cond_false,Option.bind_some,kG,Bool.not_false,Bool.true_and]
    rw [show ((nth l 0).kind != 1 || ((nth l 0).box != (-1) || (nth l 0).iP != 1000000))=uq l from rfl]
    cases uq l
    · simp only [cond_false,Bool.not_false,Bool.true_and]
      rw [kj l (sS l) (.inl (l.length:Int)) (.inr false) (Nat.lt_of_lt_of_le hlB hN)]
      · simp only [Option.bind_some];cases allI (sS l) 0 l <;> rfl
      · intro k y hy hk
        have hm:=List.mem_of_getElem? hy
        simp only [jC hk,cond_true,iW,hy,Option.bind_some,C5 hN (jM hb hm),jD (Nat.lt_trans hk hlB)]
        unfold sS
        cases ho:ku y
        · rfl
        · obtain ⟨q1,q2⟩:=tE ho
          rw [Ae hN hl q1 q2]
          rcases Dm hl ho with q | q
          · rw [q]
            simp only [Bool.not_true,cond_false,Bool.true_and,lu,Option.bind_some]
            cases (decide ((k:Int) > 0)&&(y.kind != 0&&(decide (y.box ≥ 0)&&tP l y.box))) <;> cases uL l y <;> rfl
          · simp only [q,Bool.not_true,cond_false,Bool.true_and,Bool.false_and,Bool.and_false,lu,Option.bind_some]
            cases uL l y <;> rfl
      · simp only [jB,cond_false]
    · rfl
  · rfl
def wA (l:List cd):Prop:=∀ o,o ∈ l→mR o
theorem qb {N:Nat} (hN:im≤N) {l:List cd} (hb:jo iD l<im) (hw:wA l):lg N l=some (kh l):=by
  have hlB:=kY hb
  unfold lg kh
  cases h10:((l.length:Int) != 10)
  · have hl:l.length=10:=vV (n:=10) h10
    rw [jy (l:=l) (i:=0) (by omega) (by omega)]
    simp only [cond_false,Option.bind_some,kG,Bool.not_false,Bool.true_and]
    rw [show ((nth l 0).kind != 1 || ((nth l 0).box != (-1) || (nth l 0).iP != 1000000))=uq l from rfl]
    cases uq l
    · simp only [cond_false,Bool.not_false,Bool.true_and]
      rw [kj l (sS l) (.inl (l.length:Int)) (.inr false) (Nat.lt_of_lt_of_le hlB hN)]
      · simp only [Option.bind_some];cases allI (sS l) 0 l <;> rfl
      · intro k y hy hk
        have hm:=List.mem_of_getElem? hy
        simp only [jC hk,cond_true,iW,hy,Option.bind_some,CQ hN (jM hb hm) (hw y hm),jD (Nat.lt_trans hk hlB)]
        unfold sS
        cases ho:ku y
        · rfl
        · obtain ⟨q1,q2⟩:=tE ho
          rw [Ae hN hl q1 q2]
          rcases Dm hl ho with q | q
          · rw [q]
            simp only [Bool.not_true,cond_false,Bool.true_and,lu,Option.bind_some]
            cases y.kind != 0 <;> cases decide ((k:Int) > 0) <;> cases (decide (y.box ≥ 0)&&tP l y.box) <;> cases uL l y <;> rfl
          · simp only [q,Bool.not_true,cond_false,Bool.true_and,Bool.false_and,Bool.and_false,lu,Option.bind_some]
            cases uL l y <;> rfl
      · simp only [jB,cond_false]
    · rfl
  · rfl
theorem vL {N:Nat} (hN:im≤N) {l:List Int} {x:Int} (hb:l.length<im):lP N l x=some (l.contains x):=by
  unfold lP
  rw [kj l (fun _ y=>!(y==x)) (.inl (l.length:Int)) (.inr true) (Nat.lt_of_lt_of_le hb hN),kF]
  · have:(l.all fun y=>!(y==x))=!l.contains x:=by
      induction l with
      | nil=>rfl
      | cons y l ih =>
        have ih:=ih (Nat.lt_trans (Nat.lt_succ_self _) hb)
        rw [List.all_cons,ih,List.contains_cons,Bool.beq_comm (a:=x)]
        cases (y==x) <;> rfl
    rw [this,Option.bind_some]
    cases l.contains x <;> rfl
  · intro k y hy hk
    simp only [jC hk,cond_true,iW,hy,Option.bind_some,jD (Nat.lt_trans hk hb)]
    cases (y==x) <;> rfl
  · simp only [jB,cond_false]
def ui (g:List Int) (k:Nat) (y:Int):Bool:=iG y 0 9&&!(g.take k).contains y
def xv (g:jr):Bool:=((g.phase==0)&&(g.pos==0)) || ((g.phase==1)&&(iG g.pos 0 9&&((g.ia.length:Int)==0)))
def kC (h:ir):Bool:=kh h.ag&&(xv h.gc&&(iG h.gc.round 0 1000000&&allI (ui h.gc.ia) 0 h.gc.ia))
theorem C7 {α:Type} {l:List α} {k:Nat} (h:l.length<im):(l.take k).length<im:=Nat.lt_of_le_of_lt (by simp;omega) h
theorem yl {N:Nat} (hN:im≤N) {h:ir} (h1:jo iD h.ag<im) (h2:h.gc.ia.length<im):oP N h=some (kC h):=by
  unfold oP kC
  rw [kj h.gc.ia (ui h.gc.ia) (.inl (h.gc.ia.length:Int)) (.inr false) (Nat.lt_of_lt_of_le h2 hN)]
  · simp only [Option.bind_some,tw,uT,uY hN h1,lu]
    cases allI (ui h.gc.ia) 0 h.gc.ia
    · simp
    · simp only [if_true,Sum.elim_inl,Bool.and_true]
      unfold xv
      cases kh h.ag
      · rfl
      cases ((h.gc.phase==0)&&(h.gc.pos==0))
      · cases ((h.gc.phase==1)&&(iG h.gc.pos 0 9&&((h.gc.ia.length:Int)==0))) <;> rfl
      · rfl
  · intro k y hy hk
    simp only [jC hk,cond_true,iW,hy,Option.bind_some,tw,vP (Nat.le_of_lt hk),tf hN (C7 h2),jD (Nat.lt_trans hk h2)]
    unfold ui
    cases iG y 0 9 <;> cases (h.gc.ia.take k).contains y <;> rfl
  · simp only [jB,cond_false]
theorem GZ (n:Nat):decide ((n:Int) > 0)=!((n:Int)==0):=by
  cases n with
  | zero=>rfl
  | succ n=>rw [decide_eq_true (by omega)];simp;omega
theorem wq {N:Nat} (hN:im≤N) {h:ir} (h1:jo iD h.ag<im) (h2:h.gc.ia.length<im) (hw:wA h.ag):nI N h=some (kC h):=by
  unfold nI kC
  rw [kj h.gc.ia (ui h.gc.ia) (.inl (h.gc.ia.length:Int)) (.inr false) (Nat.lt_of_lt_of_le h2 hN)]
  · simp only [Option.bind_some,rW,l6,qb hN h1 hw,kG,GZ]
    cases kh h.ag
    · rfl
    cases iG h.gc.round 0 1000000
    · simp
    unfold xv
    by_cases q0:h.gc.phase=0
    · have e0:(h.gc.phase==0)=true:=by simp [q0]
      have e1:(h.gc.phase==1)=false:=by simp [q0]
      have e2:iG h.gc.phase 0 1=true:=by rw [q0];decide
      rw [e0,e1,e2]
      simp only [bne]
      cases h.gc.pos==0
      · rfl
      · cases allI (ui h.gc.ia) 0 h.gc.ia <;> rfl
    by_cases q1:h.gc.phase=1
    · have e0:(h.gc.phase==0)=false:=by simp [q1]
      have e1:(h.gc.phase==1)=true:=by simp [q1]
      have e2:iG h.gc.phase 0 1=true:=by rw [q1];decide
      rw [e0,e1,e2]
      cases iG h.gc.pos 0 9
      · rfl
      cases ((h.gc.ia.length:Int)==0)
      · rfl
      · cases allI (ui h.gc.ia) 0 h.gc.ia <;> rfl
    · have e0:(h.gc.phase==0)=false:=by simp [q0]
      have e1:(h.gc.phase==1)=false:=by simp [q1]
      have e2:iG h.gc.phase 0 1=false:=by
        rw [Bool.eq_false_iff,Ne,jE];omega
      rw [e0,e1,e2];rfl
  · intro k y hy hk
    simp only [jC hk,cond_true,iW,hy,Option.bind_some,rW,vP (Nat.le_of_lt hk),vL hN (C7 h2),jD (Nat.lt_trans hk h2)]
    unfold ui
    cases iG y 0 9 <;> cases (h.gc.ia.take k).contains y <;> rfl
  · simp only [jB,cond_false]
def nw (t:je):Bool:=(iG t.res 0 4&&(iG t.my 0 2&&(iG t.nO 0 4&&iG t.nF 0 2)))&&(((t.kind==1)&&iG t.nW 0 1000) || ((t.kind==2)&&iG t.nW 0 100))
theorem CX (N:Nat) (t:je):sE N t=some (nw t):=by
  unfold sE nw
  simp only [tO,yg,mI,Option.bind_some,kG,lu]
  by_cases q:t.kind=1
  · have e1:(t.kind==1)=true:=by simp [q]
    have e2:(t.kind==2)=false:=by simp [q]
    rw [e1,e2]
    cases iG t.res 0 4 <;> cases iG t.nO 0 4 <;> cases iG t.my 0 2 <;> cases iG t.nF 0 2 <;> cases iG t.nW 0 1000 <;> rfl
  · have e1:(t.kind==1)=false:=by simp [q]
    rw [e1]
    cases iG t.res 0 4 <;> cases iG t.nO 0 4 <;> cases iG t.my 0 2 <;> cases iG t.nF 0 2 <;> cases (t.kind==2) <;> cases iG t.nW 0 100 <;> rfl
theorem zF (N:Nat) (t:je):qk N t=some (nw t):=by
  unfold qk nw
  simp only [uy,l6,Option.bind_some,kG,lu]
  by_cases q:t.kind=1
  · have e1:(t.kind==1)=true:=by simp [q]
    have e2:(t.kind==2)=false:=by simp [q]
    rw [e1,e2]
    cases iG t.res 0 4 <;> cases iG t.my 0 2 <;> cases iG t.nO 0 4 <;> cases iG t.nF 0 2 <;> cases iG t.nW 0 1000 <;> rfl
  · have e1:(t.kind==1)=false:=by simp [q]
    rw [e1]
    cases iG t.res 0 4 <;> cases iG t.my 0 2 <;> cases iG t.nO 0 4 <;> cases iG t.nF 0 2 <;> cases (t.kind==2) <;> cases iG t.nW 0 100 <;> rfl
def BM (p:hZ):Bool:=iG p.next 0 9&&(iG p.want 0 10&&(jl p.gE&&(iG p.ik 0 1000000&&iG p.lost 0 1000000)))
def kl (p:hZ):Bool:=jH p.label&&(lG p.own&&(kp p.tree&&(kC p.heap&&(!decide ((p.ic.length:Int) > 3)&&(p.ic.all nw&&BM p)))))
theorem yh {N:Nat} (hN:im≤N) {p:hZ} (h:jd p<im):oT N p=some (kl p):=by
  obtain ⟨h1,h2,h3,h4,h5,h6⟩:=kg h
  unfold oT kl
  rw [kj p.ic (fun _ t=>nw t) (.inl (p.ic.length:Int)) (.inr false) (Nat.lt_of_lt_of_le h6 hN),kF]
  · simp only [Option.bind_some,xh hN h1,Dh hN h2,tx hN,yl hN h4 h5,tw,mI,qM,uT,kG,lu]
    rw [show (iG p.next 0 9&&(iG p.want 0 10&&(jl p.gE&&(iG p.ik 0 1000000&&iG p.lost 0 1000000))))=BM p from rfl]
    cases p.ic.all nw
    · simp
    · simp only [if_true,Sum.elim_inl,Bool.true_and]
      cases jH p.label <;> cases lG p.own <;> cases kp p.tree <;> cases kC p.heap <;> cases decide ((p.ic.length:Int) > 3) <;> rfl
  · intro k y hy hk
    simp only [jC hk,cond_true,iW,hy,Option.bind_some,CX,jD (Nat.lt_trans hk h6)]
    cases nw y <;> rfl
  · simp only [jB,cond_false]
def wP (p:hZ):Prop:=wA p.heap.ag
theorem x6 {N:Nat} (hN:im≤N) {p:hZ} (h:jd p<im) (hw:wP p):oV N p=some (kl p):=by
  obtain ⟨h1,h2,h3,h4,h5,h6⟩:=kg h
  unfold oV kl
  rw [kj p.ic (fun _ t=>nw t) (.inl (p.ic.length:Int)) (.inr false) (Nat.lt_of_lt_of_le h6 hN),kF]
  · simp only [Option.bind_some,pY hN h1,xz hN h2,v9 hN,wq hN h4 h5 hw,rW,l6,qZ,kG,lu]
    unfold BM
    cases jH p.label
    · rfl
    cases lG p.own
    · rfl
    cases kp p.tree
    · rfl
    cases kC p.heap
    · rfl
    cases decide ((p.ic.length:Int) > 3)
    · simp only [Bool.not_true,Bool.not_false,Bool.false_or,Bool.true_and]
      cases iG p.next 0 9 <;> cases iG p.want 0 10 <;> cases jl p.gE <;> cases iG p.ik 0 1000000 <;> cases iG p.lost 0 1000000 <;> cases p.ic.all nw <;> rfl
    · rfl
  · intro k y hy hk
    simp only [jC hk,cond_true,iW,hy,Option.bind_some,zF,jD (Nat.lt_trans hk h6)]
    cases nw y <;> rfl
  · simp only [jB,cond_false]
end Go.Kx
/- Plain laws: lF, what is reached, threads, who may call. No program in sight. -/
namespace Go.Kx
open Go
set_option linter.unusedVariables false
set_option linter.unusedSimpArgs false
set_option maxRecDepth 10000
theorem AZ {σ ρ:Type} {body:σ→Option (σ⊕ρ)} (μ:σ→Nat) (I:σ→Prop) (Q:ρ→Prop) (h:∀ s,I s→(∃ s',body s=some (.inl s')∧I s'∧μ s'<μ s)∨∃ r,body s=some (.inr r)∧Q r):∀ (N:Nat) (s:σ),I s→μ s<N→∃ r,iter body N s=some r∧Q r
  | 0,s,_,hN=>by omega
  | N+1,s,hI,hN=>by
    unfold iter
    rcases h s hI with ⟨s',h1,h2,h3⟩ | ⟨r,h1,h2⟩
    · rw [h1];exact AZ μ I Q h N s' h2 (by omega)
    · rw [h1];exact ⟨r,rfl,h2⟩
theorem vd {α β:Type} {p:Nat→α→Bool} {h:Nat→α→β} {z:β}:∀ {l:List α} {k:Nat},z ∈ mc p h k l ↔ ∃ (i:Nat) (y:α),l[i]?=some y∧p (k+i) y=true∧z=h (k+i) y
  | [],k=>by simp [mc]
  | y::l,k=>by
    have ih:=vd (p:=p) (h:=h) (z:=z) (l:=l) (k:=k+1)
    have key:(∃ (i:Nat) (x:α),(y::l)[i]?=some x∧p (k+i) x=true∧z=h (k+i) x) ↔ (p k y=true∧z=h k y)∨z ∈ mc p h (k+1) l:=by
      rw [ih]
      constructor
      · rintro ⟨i,x,h1,h2,h3⟩
        cases i with
        | zero=>simp at h1;subst h1;exact .inl ⟨h2,h3⟩
        | succ i=>exact .inr ⟨i,x,by simpa using h1,by rwa [show k+1+i=k+(i+1) by omega],by rwa [show k+1+i=k+(i+1) by omega]⟩
      · rintro (⟨h2,h3⟩ | ⟨i,x,h1,h2,h3⟩)
        · exact ⟨0,y,rfl,h2,h3⟩
        · exact ⟨i+1,x,by simpa using h1,by rwa [show k+(i+1)=k+1+i by omega],by rwa [show k+(i+1)=k+1+i by omega]⟩
    rw [key,show mc p h k (y::l)=if p k y then h k y::mc p h (k+1) l else mc p h (k+1) l from rfl]
    cases hp:p k y <;> simp
structure Ar (l:List cd):Prop where
  len:l.length=10
  IM:(nth l 0).kind=1
  Jj:(nth l 0).box=-1
  Jm:(nth l 0).iP=1000000
  ok:∀ o,o ∈ l→ku o=true
  ij:∀ o,o ∈ l→∀ y,y ∈ o.ij→0≤y→(nth l y).kind ≠ 0
  box:∀ (k:Nat) (o:cd),l[k]?=some o→0<k→o.kind ≠ 0→0≤o.box→(nth l o.box).kind ≠ 0
theorem DF {l:List cd} {k:Nat} {o:cd}:sS l k o=true ↔ ku o=true∧(0<k→o.kind ≠ 0→0≤o.box→(nth l o.box).kind ≠ 0)∧∀ y,y ∈ o.ij→0≤y→(nth l y).kind ≠ 0:=by
  unfold sS uL tP
  simp only [Bool.and_eq_true,List.all_eq_true,Bool.not_eq_true',Bool.and_eq_false_iff,decide_eq_false_iff_not,bne_eq_false_iff_eq,beq_eq_false_iff_ne,ne_eq]
  constructor
  · rintro ⟨⟨h1,h2⟩,h3⟩
    refine ⟨h1,fun a b c=>?_,fun y hy h0=>?_⟩
    · rcases h2 with q | q | q | q
      · omega
      · exact absurd q b
      · omega
      · exact q
    · rcases h3 y hy with q | q
      · omega
      · exact q
  · rintro ⟨h1,h2,h3⟩
    refine ⟨⟨h1,?_⟩,fun y hy=>?_⟩
    · by_cases a:0<k
      · by_cases b:o.kind=0
        · exact .inr (.inl b)
        · by_cases c:0≤o.box
          · exact .inr (.inr (.inr (h2 a b c)))
          · exact .inr (.inr (.inl (by omega)))
      · exact .inl (by omega)
    · by_cases c:0≤y
      · exact .inr (h3 y hy c)
      · exact .inl (by omega)
theorem kz {l:List cd}:kh l=true ↔ Ar l:=by
  unfold kh uq
  simp only [Bool.and_eq_true,Bool.not_eq_true',bne_eq_false_iff_eq,Bool.or_eq_false_iff,n4,Nat.zero_add,DF]
  constructor
  · rintro ⟨h1,⟨h2,h3,h4⟩,h5⟩
    have hm:∀ o,o ∈ l→∃ k:Nat,l[k]?=some o:=fun o ho=>List.getElem?_of_mem ho
    refine ⟨by omega,h2,h3,h4,fun o ho=>?_,fun o ho=>?_,fun k o hk=>?_⟩
    · obtain ⟨k,hk⟩:=hm o ho;exact (h5 k o hk).1
    · obtain ⟨k,hk⟩:=hm o ho;exact (h5 k o hk).2.2
    · exact (h5 k o hk).2.1
  · intro h
    refine ⟨by have:=h.len;omega,⟨h.IM,h.Jj,h.Jm⟩,fun i y hy=>⟨h.ok y (List.mem_of_getElem? hy),h.box i y hy,h.ij y (List.mem_of_getElem? hy)⟩⟩
theorem Ar.at {l:List cd} (h:Ar l) {i:Int} (h0:0≤i) (h9:i≤9):idx l i=some (nth l i)∧nth l i ∈ l:=⟨jy h0 (by have:=h.len;omega),pI h0 (by have:=h.len;omega)⟩
theorem Ar.vV {l:List cd} (h:Ar l):l.length<im:=by rw [h.len];decide
def jS (o:cd) (now:Int):Bool:=bif o.kind==0 then true else decide (o.iP<now)
theorem Ei (N:Nat) (o:cd) (now:Int):pM N o now=some (jS o now):=oL _ _ _
theorem tN (N:Nat) (o:cd) (now:Int):lJ N o now=some (jS o now):=oL _ _ _
def x7 (l:List cd) (i:Int) (k:Nat) (y:cd):Bool:=(decide ((k:Int) > 0)&&(y.kind != 0&&((y.box==i)&&((nth l i).kind==1)))) || (nth l i).ij.contains (k:Int)
def lF (l:List cd) (i:Int):List Int:=mc (x7 l i) (fun k _=>(k:Int)) 0 l
theorem EF {o:cd} (h:ku o=true):o.ij.length<im:=Nat.lt_of_le_of_lt (tE h).1 (by decide)
theorem uU {l:List cd} {i k:Int} (h:k ∈ lF l i):0≤k∧k<(l.length:Int):=by
  obtain ⟨j,y,h1,_,h3⟩:=vd.1 h
  have:=jx h1
  have h3:k=((0+j:Nat):Int):=h3
  omega
theorem Eg (l:List cd) (i:Int):(lF l i).length≤l.length:=wK _ _ _ _
theorem Fh {N:Nat} (hN:im≤N) {l:List cd} (h:Ar l) {i:Int} (h0:0≤i) (h9:i≤9):pG N l i=some (lF l i):=by
  obtain ⟨q1,q2⟩:=h.at h0 h9
  have hB:=h.vV
  unfold pG lF
  rw [r8 l (x7 l i) (fun k _=>(k:Int)) hB hN]
  · rfl
  · intro k t y hy hk ht
    simp only [jC hk,cond_true,iW,hy,Option.bind_some,q1,tf hN (EF (h.ok _ q2)),lu,kG,jD (Nat.lt_trans hk hB),kS ht (Nat.lt_of_le_of_lt hk hB)]
    show (bif x7 l i k y then _ else _)=_
    cases x7 l i k y <;> rfl
  · intro t
    simp only [jB,cond_false]
theorem DX {l:List cd} (h:Ar l) {i:Int} (h0:0≤i) (h9:i≤9) (hk:(nth l i).kind=0):lF l i=[]:=by
  obtain ⟨_,q2⟩:=h.at h0 h9
  have hl:(nth l i).ij=[]:=by
    have:=h.ok _ q2
    unfold ku at this
    simp only [hk,beq_self_eq_true,cond_true,Bool.and_eq_true,decide_eq_true_eq] at this
    rw [this.2.2];rfl
  rw [List.eq_nil_iff_forall_not_mem]
  intro k hm
  obtain ⟨j,y,_,h2,_⟩:=vd.1 hm
  simp [x7,hk,hl] at h2
theorem CU {N:Nat} (hN:im≤N) {l:List cd} (hb:jo iD l<im) (hw:wA l) (h:Ar l) {i:Int} (h0:0≤i) (h9:i≤9):qn N l i=some (lF l i):=by
  obtain ⟨q1,q2⟩:=h.at h0 h9
  have hB:=h.vV
  have hi:iG i 0 9=true:=by rw [jE];omega
  unfold qn
  simp only [qb hN hb hw,kz.2 h,rW,hi,q1,Option.bind_some,Bool.not_true,cond_false]
  cases hk:(nth l i).kind==0
  · simp only [cond_false]
    unfold lF
    rw [r8 l (x7 l i) (fun k _=>(k:Int)) hB hN]
    · rfl
    · intro k t y hy hk ht
      simp only [jC hk,cond_true,iW,hy,Option.bind_some,vL hN (EF (h.ok _ q2)),lu,kG,jD (Nat.lt_trans hk hB),kS ht (Nat.lt_of_le_of_lt hk hB)]
      unfold x7
      cases decide ((k:Int) > 0)
      · cases (nth l i).ij.contains (k:Int) <;> rfl
      cases y.kind != 0
      · cases (nth l i).ij.contains (k:Int) <;> rfl
      cases y.box==i
      · cases (nth l i).ij.contains (k:Int) <;> rfl
      · cases ((nth l i).kind==1) <;> cases (nth l i).ij.contains (k:Int) <;> rfl
    · intro t
      simp only [jB,cond_false]
  · rw [DX h h0 h9 (by simpa using hk)];rfl
inductive Reaches (l:List cd) (now:Int):Int→Prop
  | root:Reaches l now 0
  | step {i k:Int}:Reaches l now i→k ∈ lF l i→jS (nth l k) now=false→Reaches l now k
theorem Reaches.xJ {l:List cd} {now:Int} (h:Ar l) {k:Int} (hr:Reaches l now k):0≤k∧k≤9:=by
  cases hr with
  | root=>omega
  | step _ h2 _=>have:=uU h2;have:=h.len;omega
def sw:List Bool→Nat
  | []=>0
  | b::r=>(if b then 0 else 1)+sw r
theorem CN:∀ {r:List Bool} {k:Nat},r[k]?=some false→sw (r.set k true)+1=sw r
  | b::r,0,h=>by simp at h;subst h;simp [sw];omega
  | b::r,k+1,h=>by
    have:=CN (r:=r) (k:=k) (by simpa using h)
    simp only [List.set_cons_succ,sw];omega
def wI (r q:List Bool):Prop:=∀ k:Nat,r[k]?=some true→q[k]?=some true
theorem B0:∀ {r q:List Bool},r.length=q.length→wI r q→sw r≤sw q→r=q
  | [],[],_,_,_=>rfl
  | b::r,c::q,hl,h,hc=>by
    have hl':r.length=q.length:=by simpa using hl
    have h':wI r q:=fun k hk=>by simpa using h (k+1) (by simpa using hk)
    have key:∀ {r q:List Bool},r.length=q.length→wI r q→sw q≤sw r:=by
      intro r
      induction r with
      | nil=>intro q hl _;cases q with
        | nil=>exact Nat.le_refl _
        | cons=>simp at hl
      | cons b r ih =>
        intro q hl h
        cases q with
        | nil=>simp at hl
        | cons c q =>
          have:=ih (q:=q) (by simpa using hl) (fun k hk=>by simpa using h (k+1) (by simpa using hk))
          have h0:=h 0
          simp at h0
          simp only [sw]
          cases b <;> cases c <;> simp_all <;> omega
    have h0:=h 0
    simp at h0
    have:=key hl' h'
    simp only [sw] at hc
    cases b <;> cases c
    · exact congrArg _ (B0 hl' h' (by simpa using hc))
    · exfalso;simp at hc;omega
    · simp at h0
    · exact congrArg _ (B0 hl' h' (by simpa using hc))
theorem C4 {r:List Bool} {k:Nat}:wI r (r.set k true):=fun j hj=>by
  rw [List.getElem?_set]
  split
  · rename_i e;subst e;rw [if_pos (jx hj)]
  · exact hj
theorem setAt {r:List Bool} {k j:Nat} (h:(r.set k true)[j]?=some true):j=k∨r[j]?=some true:=by
  rw [List.getElem?_set] at h
  split at h
  · exact .inl (by omega)
  · exact .inr h
def u6 (l:List cd) (now:Int) (r:List Bool) (y:Int):List Bool:=if jS (nth l y) now then r else r.set y.toNat true
def visit (l:List cd) (now:Int) (k:Nat) (r:List Bool) (o:cd):List Bool:=if !(nth r (k:Int)) || (jS o now&&decide ((k:Int) > 0)) then r else (lF l (k:Int)).foldl (u6 l now) r
def tK (l:List cd) (now:Int) (r:List Bool):List Bool:=foldI (visit l now) 0 r l
def qx (l:List cd) (now:Int):Nat→List Bool→List Bool
  | 0,r=>r
  | n+1,r=>qx l now n (tK l now r)
def reach (l:List cd) (now:Int):List Bool:=if kh l then qx l now 10 ((List.replicate 10 false).set 0 true) else []
theorem zy (l:List cd) (now:Int) (r:List Bool) (y:Int):(u6 l now r y).length=r.length:=by unfold u6;split <;> simp
theorem Bf (l:List cd) (now:Int):∀ (e:List Int) (r:List Bool),(e.foldl (u6 l now) r).length=r.length
  | [],r=>rfl
  | y::e,r=>by rw [List.foldl_cons,Bf l now e,zy]
theorem vf (l:List cd) (now:Int) (k:Nat) (r:List Bool) (o:cd):(visit l now k r o).length=r.length:=by
  unfold visit
  split
  · rfl
  · exact Bf _ _ _ _
theorem HL (l:List cd) (now:Int) (r:List Bool) (y:Int):wI r (u6 l now r y):=by
  unfold u6
  split
  · exact fun _ h=>h
  · exact C4
theorem zl (l:List cd) (now:Int):∀ (e:List Int) (r:List Bool),wI r (e.foldl (u6 l now) r)
  | [],r=>fun _ h=>h
  | y::e,r=>fun k hk=>zl l now e _ k (HL l now r y k hk)
theorem A0 (l:List cd) (now:Int) (k:Nat) (r:List Bool) (o:cd):wI r (visit l now k r o):=by
  unfold visit
  split
  · exact fun _ h=>h
  · exact zl _ _ _ _
theorem Bb (l:List cd) (now:Int):∀ (e:List Int) (r:List Bool),(∀ y,y ∈ e→y.toNat<r.length)→∀ y,y ∈ e→jS (nth l y) now=false→(e.foldl (u6 l now) r)[y.toNat]?=some true
  | z::e,r,hr,y,hy,hx=>by
    rw [List.foldl_cons]
    rcases List.mem_cons.1 hy with rfl | hy
    · refine zl l now e _ _ ?_
      unfold u6
      rw [if_neg (by simp [hx]),List.getElem?_set_self (hr y (by simp))]
    · exact Bb l now e _ (fun x h=>by rw [zy];exact hr x (by simp [h])) y hy hx
def uc (l:List cd) (now:Int) (r:List Bool):Prop:=∀ k:Nat,r[k]?=some true→Reaches l now (k:Int)
theorem Bd {l:List cd} {now i:Int} (hi:Reaches l now i):∀ (e:List Int) (r:List Bool),(∀ y,y ∈ e→y ∈ lF l i)→uc l now r→uc l now (e.foldl (u6 l now) r)
  | [],r,_,h=>h
  | y::e,r,he,h=>by
    rw [List.foldl_cons]
    refine Bd hi e _ (fun x hx=>he x (by simp [hx])) ?_
    unfold u6
    split
    · exact h
    · rename_i hx
      intro k hk
      rcases setAt hk with q | q
      · have hy:=he y (by simp)
        have:=uU hy
        have e:(k:Int)=y:=by omega
        rw [e]
        exact .step hi hy (by simpa using hx)
      · exact h k q
theorem yk {r:List Bool} {k:Nat}:nth r (k:Int)=true ↔ r[k]?=some true:=by
  unfold nth
  rw [Int.toNat_natCast]
  cases h:r[k]? with
  | none=>simp;try rfl
  | some b=>simp
theorem xc {l:List cd} {now:Int} {k:Nat} {r:List Bool} {o:cd} (h:uc l now r):uc l now (visit l now k r o):=by
  unfold visit
  split
  · exact h
  · rename_i hc
    simp only [Bool.or_eq_true,Bool.not_eq_true',not_or,Bool.not_eq_false] at hc
    exact Bd (h k (yk.1 hc.1)) _ _ (fun _ hy=>hy) h
theorem vu {l:List cd} {now:Int}:∀ (m:List cd) (k:Nat) (r:List Bool),uc l now r→(foldI (visit l now) k r m).length=r.length∧wI r (foldI (visit l now) k r m)∧uc l now (foldI (visit l now) k r m)
  | [],k,r,h=>⟨rfl,fun _ h=>h,h⟩
  | o::m,k,r,h=>by
    obtain ⟨h1,h2,h3⟩:=vu m (k+1) (visit l now k r o) (xc h)
    exact ⟨by unfold foldI;rw [h1,vf],fun j hj=>h2 j (A0 l now k r o j hj),h3⟩
def yy (l:List cd) (now:Int) (r q:List Bool):Prop:=∀ i:Nat,r[i]?=some true→∀ y,y ∈ lF l (i:Int)→jS (nth l y) now=false→q[y.toNat]?=some true
theorem Dv {l:List cd} {now:Int} (h:Ar l) {k:Int} (hr:Reaches l now k) (hk:k ≠ 0):jS (nth l k) now=false:=by
  cases hr with
  | root=>exact absurd rfl hk
  | step _ _ h3=>exact h3
theorem Ak {l:List cd} {now:Int} (h:Ar l):∀ (m:List cd) (k:Nat) (r q:List Bool),(∀ j:Nat,m[j]?=l[k+j]?)→r.length=10→uc l now r→wI q r→∀ i:Nat,k≤i→q[i]?=some true→∀ y,y ∈ lF l (i:Int)→jS (nth l y) now=false→(foldI (visit l now) k r m)[y.toNat]?=some true
  | [],k,r,q,hm,hr,hs,hq,i,hi,hqi,y,hy,hx=>by
    have:=(hs i (hq i hqi)).xJ h
    have h2:=hm (i - k)
    rw [show k+(i - k)=i by omega] at h2
    have:=h.len
    rw [List.getElem?_eq_getElem (show i<l.length by omega)] at h2
    simp at h2
  | o::m,k,r,q,hm,hr,hs,hq,i,hi,hqi,y,hy,hx=>by
    have ho:l[k]?=some o:=by have:=hm 0;simpa using this.symm
    unfold foldI
    rcases Nat.eq_or_lt_of_le hi with e | hlt
    · subst e
      refine (vu m (k+1) _ (xc hs)).2.1 _ ?_
      have hk:nth r (k:Int)=true:=yk.2 (hq k hqi)
      have hn:(jS o now&&decide ((k:Int) > 0))=false:=by
        by_cases h0:k=0
        · subst h0;simp
        · have:=Dv h (hs k (hq k hqi)) (by omega)
          rw [BF ho] at this
          simp [this]
      unfold visit
      rw [if_neg (by rw [hk,hn];decide)]
      exact Bb l now _ r (fun z hz=>by have:=uU hz;have:=h.len;omega) y hy hx
    · exact Ak h m (k+1) (visit l now k r o) q (fun j=>by have:=hm (j+1);rw [show k+1+j=k+(j+1) by omega, ← this];rfl) (by rw [vf,hr]) (xc hs) (fun j hj=>A0 l now k r o j (hq j hj)) i hlt hqi y hy hx
theorem wN {l:List cd} {now:Int} (h:Ar l):∀ (n:Nat) (r:List Bool),r.length=10→uc l now r→(qx l now n r).length=10∧wI r (qx l now n r)∧uc l now (qx l now n r)∧(sw r<n→yy l now (qx l now n r) (qx l now n r))
  | 0,r,hr,hs=>⟨hr,fun _ h=>h,hs,fun h=>by omega⟩
  | n+1,r,hr,hs=>by
    obtain ⟨p1,p2,p3⟩:=vu (l:=l) (now:=now) l 0 r hs
    have p4:=fun i hi=>Ak h l 0 r r (fun j=>by rw [Nat.zero_add]) hr hs (fun _ h=>h) i (Nat.zero_le _) hi
    obtain ⟨q1,q2,q3,q4⟩:=wN h n (tK l now r) (by unfold tK;rw [p1,hr]) p3
    refine ⟨q1,fun k hk=>q2 k (p2 k hk),q3,fun hc=>?_⟩
    by_cases hcl:sw (tK l now r)<n
    · exact q4 hcl
    · have e:r=tK l now r:=B0 p1.symm p2 (by omega)
      have fix:∀ m,qx l now m r=r:=by
        intro m
        induction m with
        | zero=>rfl
        | succ m ih=>unfold qx;rw [← e,ih]
      rw [fix (n+1)]
      intro i hi y hy hx
      have:=p4 i hi y hy hx
      rwa [show foldI (visit l now) 0 r l=r from e.symm] at this
def Gy (l:List cd) (now:Int) (r:List Bool):Prop:=r.length=10∧∀ k:Nat,r[k]?=some true ↔ Reaches l now (k:Int)
theorem EX {l:List cd} {now:Int} (h:Ar l) {r:List Bool} (hl:r.length=10) (hs:uc l now r) (h0:r[0]?=some true) (hc:yy l now r r):Gy l now r:=by
  refine ⟨hl,fun k=>⟨hs k,fun hr=>?_⟩⟩
  have key:∀ j:Int,Reaches l now j→r[j.toNat]?=some true:=by
    intro j hj
    induction hj with
    | root=>exact h0
    | step h1 h2 h3 ih =>
      rename_i i k
      have:=(Reaches.xJ h h1)
      refine hc i.toNat ih k ?_ h3
      rwa [show ((i.toNat:Nat):Int)=i by omega]
  simpa using key k hr
theorem HK {l:List cd} {now:Int} {r q:List Bool} (h1:Gy l now r) (h2:Gy l now q):r=q:=by
  apply List.ext_getElem? fun k=>?_
  rcases Nat.lt_or_ge k 10 with hk | hk
  · have e:r[k]?=some true ↔ q[k]?=some true:=(h1.2 k).trans (h2.2 k).symm
    rw [List.getElem?_eq_getElem (by rw [h1.1];exact hk),List.getElem?_eq_getElem (by rw [h2.1];exact hk)] at e ⊢
    generalize r[k]'(by rw [h1.1];exact hk)=a at *
    generalize q[k]'(by rw [h2.1];exact hk)=b at *
    cases a <;> cases b <;> simp_all
  · rw [List.getElem?_eq_none (by rw [h1.1];exact hk),List.getElem?_eq_none (by rw [h2.1];exact hk)]
theorem Ec (l:List cd) (now:Int):uc l now ((List.replicate 10 false).set 0 true):=fun k hk=>by
  rcases setAt hk with q | q
  · subst q;exact .root
  · rw [List.getElem?_replicate] at q;split at q <;> simp at q
theorem BW {l:List cd} (h:Ar l) (now:Int):Gy l now (reach l now):=by
  unfold reach
  rw [if_pos (kz.2 h)]
  obtain ⟨q1,q2,q3,q4⟩:=wN (now:=now) h 10 ((List.replicate 10 false).set 0 true) rfl (Ec l now)
  exact EX h q1 q3 (q2 0 rfl) (q4 (by decide))
theorem qf {l:List cd} (h:Ar l) (now:Int):(reach l now).length=10:=(BW h now).1
theorem xi {l:List cd} {now:Int}:∀ (m:List cd) (k:Nat) (r:List Bool),(foldI (visit l now) k r m).length=r.length
  | [],k,r=>rfl
  | o::m,k,r=>by unfold foldI;rw [xi m,vf]
theorem Hj {N:Nat} (hN:im≤N) {l:List cd} (h:Ar l) {now:Int} {e:List Int} (he:∀ y,y ∈ e→0≤y∧y≤9) (hl:e.length≤10) {r:List Bool} (hr:r.length=10) :
    iter (fun (s67:(List Bool)×Int)=>(bif (decide (s67.2<(e.length:Int))) then ((idx e s67.2).bind fun y70=>(idx l y70).bind fun y83=>bif (!(jS y83 now)) then ((idx s67.1 y70).bind fun y104=>some (.inl (s67.1.set (y70:Int).toNat true,IntKind.i64.wrap (s67.2+1)))) else (some (.inl (s67.1,IntKind.i64.wrap (s67.2+1))))) else (some (.inr (s67.1,s67.2))):Option (((List Bool)×Int)⊕((List Bool)×Int)))) N (r,0)=some (e.foldl (u6 l now) r,(e.length:Int)):=by
  have hB:e.length<im:=Nat.lt_of_le_of_lt hl (by decide)
  rw [show (r,(0:Int))=(fun (k:Nat) (t:List Bool)=>(t,(k:Int))) 0 r from rfl,
    kV e (fun (k:Nat) (t:List Bool)=>(t,(k:Int))) (fun _ t y=>u6 l now t y) (fun t=>(t,(e.length:Int))) (fun _ t=>t.length=10) ?_ ?_ (Nat.lt_of_lt_of_le hB hN) hr,l8]
  · intro k t y hy hk ht
    obtain ⟨y0,y9⟩:=he y (List.mem_of_getElem? hy)
    refine ⟨?_,by rw [zy,ht]⟩
    simp only [jC hk,cond_true,iW,hy,Option.bind_some,(h.at y0 y9).1,tN,jD (Nat.lt_trans hk hB),jy (l:=t) y0 (by omega)]
    unfold u6
    cases jS (nth l y) now <;> rfl
  · intro t _
    simp only [jB,cond_false]
theorem uM {l:List cd} (h:Ar l) (i:Int):(∀ y,y ∈ lF l i→0≤y∧y≤9)∧(lF l i).length≤10:=by
  have:=h.len
  refine ⟨fun y hy=>by have:=uU hy;omega,by have:=Eg l i;omega⟩
theorem Dq {N:Nat} (hN:im≤N) {l:List cd} (hb:jo iD l<im) (hw:wA l) (now:Int):ss N l now=some (reach l now):=by
  unfold ss reach
  rw [qb hN hb hw,Option.bind_some]
  cases ha:kh l
  · rfl
  have h:=kz.1 ha
  have hB:=h.vV
  simp only [Bool.not_true,cond_false,if_true]
  rw [show mk Bool 10=some (List.replicate 10 false) from rfl]
  simp only [Option.bind_some]
  rw [show idx (List.replicate 10 false) 0=some false from rfl]
  simp only [Option.bind_some]
  have hin:∀ r:List Bool,r.length=10→iter (fun (s21:(List Bool)×Int)=>(bif (decide (s21.2<(l.length:Int))) then (((idx s21.1 s21.2).bind fun y26=>bif (!y26) then (some true) else ((idx l s21.2).bind fun y40=>(lJ N y40 now).bind fun y58=>bif y58 then (some (decide (s21.2 > 0))) else (some false)):Option Bool).bind fun j24=>bif j24 then (some (.inl (s21.1,IntKind.i64.wrap (s21.2+1)))) else ((qn N l s21.2).bind fun y63=>(iter (fun (s67:(List Bool)×Int)=>(bif (decide (s67.2<(y63.length:Int))) then ((idx y63 s67.2).bind fun y70=>(idx l y70).bind fun y83=>(lJ N y83 now).bind fun y101=>bif (!y101) then ((idx s67.1 y70).bind fun y104=>some (.inl (s67.1.set (y70:Int).toNat true,IntKind.i64.wrap (s67.2+1)))) else (some (.inl (s67.1,IntKind.i64.wrap (s67.2+1))))) else (some (.inr (s67.1,s67.2))):Option (((List Bool)×Int)⊕((List Bool)×Int)))) N (s21.1,0)).bind fun o111=>some (.inl (o111.1,IntKind.i64.wrap (s21.2+1))))) else (some (.inr (s21.1,s21.2))):Option (((List Bool)×Int)⊕((List Bool)×Int)))) N (r,0)=some (tK l now r,(l.length:Int)):=by
    intro r hr
    rw [show (r,(0:Int))=(fun (k:Nat) (t:List Bool)=>(t,(k:Int))) 0 r from rfl,
      kV l (fun (k:Nat) (t:List Bool)=>(t,(k:Int))) (fun k t y=>visit l now k t y) (fun t=>(t,(l.length:Int))) (fun _ t=>t.length=10) ?_ ?_ (Nat.lt_of_lt_of_le hB hN) hr]
    · rfl
    · intro k t y hy hk ht
      have hk10:k<10:=by rw [← h.len];exact hk
      refine ⟨?_,by rw [vf,ht]⟩
      simp only [jC hk,cond_true]
      rw [jy (l:=t) (i:=(k:Int)) (by omega) (by omega)]
      simp only [iW,hy,Option.bind_some,tN,jD (Nat.lt_trans hk hB)]
      rw [CU hN hb hw h (i:=(k:Int)) (by omega) (by omega),Option.bind_some,Hj hN h (uM h _).1 (uM h _).2 ht]
      unfold visit
      cases nth t (k:Int) <;> cases jS y now <;> cases decide ((k:Int) > 0) <;> rfl
    · intro t _
      simp only [jB,cond_false]
  have hout:∀ (n:Nat) (j:Nat) (r:List Bool),r.length=10→foldI (fun _ t (_:Unit)=>tK l now t) j r (List.replicate n ())=qx l now n r:=by
    intro n
    induction n with
    | zero=>intro j r _;rfl
    | succ n ih=>intro j r hr;rw [List.replicate_succ];unfold foldI qx;exact ih _ _ (by
        have:=xi (l:=l) (now:=now) l 0 r
        unfold tK;rw [this,hr])
  rw [show (((List.replicate 10 false).set (0:Int).toNat true,(0:Int)):List Bool×Int)=(fun (k:Nat) (t:List Bool)=>(t,(k:Int))) 0 ((List.replicate 10 false).set 0 true) from rfl,
    kV (List.replicate 10 ()) (fun (k:Nat) (t:List Bool)=>(t,(k:Int))) (fun _ t _=>tK l now t) (fun t=>(t,(10:Int))) (fun _ t=>t.length=10) ?_ ?_ (Ia (k:=0) hN (by decide)) rfl,hout 10 0 _ rfl]
  · rfl
  · intro k t y hy hk ht
    have hk:k<10:=by simpa using hk
    refine ⟨?_,by have:=xi (l:=l) (now:=now) l 0 t;unfold tK;rw [this,ht]⟩
    have h3:decide ((k:Int)<10)=true:=by simp;omega
    simp only [h3,cond_true]
    rw [hin t ht]
    simp only [Option.bind_some,jD (show k<im from Nat.lt_trans hk (by decide))]
  · intro t _
    rfl
def push (l:List cd) (now:Int) (s:List Bool×List Int) (y:Int):List Bool×List Int:=if !(nth s.1 y)&&!jS (nth l y) now then (s.1.set y.toNat true,s.2++[y]) else s
theorem z7 {r:List Bool} {y:Int} (h0:0≤y):nth r y=true ↔ r[y.toNat]?=some true:=by
  have:=yk (r:=r) (k:=y.toNat)
  rwa [show ((y.toNat:Nat):Int)=y by omega] at this
theorem wo {l:List cd} {now i:Int} (hi:Reaches l now i):∀ (e:List Int) (s:List Bool×List Int),(∀ y,y ∈ e→y ∈ lF l i∧0≤y∧y≤9)→s.1.length=10→uc l now s.1 →
    let z:=e.foldl (push l now) s
    z.1.length=10∧uc l now z.1∧wI s.1 z.1∧z.2.length+sw z.1=s.2.length+sw s.1∧(∀ y,y ∈ e→jS (nth l y) now=false→z.1[y.toNat]?=some true)∧(∀ y,y ∈ s.2→y ∈ z.2) ∧
      (∀ y,y ∈ z.2→y ∈ s.2∨(0≤y∧z.1[y.toNat]?=some true))∧(∀ k:Nat,z.1[k]?=some true→s.1[k]?=some true∨(k:Int) ∈ z.2)
  | [],s,_,h1,h2=>⟨h1,h2,fun _ h=>h,rfl,fun _ h=>absurd h (by simp),fun _ h=>h,fun _ h=>.inl h,fun _ h=>.inl h⟩
  | y::e,s,he,h1,h2=>by
    obtain ⟨e1,e2,e3⟩:=he y (by simp)
    have hlt:y.toNat<s.1.length:=by omega
    simp only [List.foldl_cons]
    by_cases hc:(!(nth s.1 y)&&!jS (nth l y) now)=true
    · have hp:push l now s y=(s.1.set y.toNat true,s.2++[y]):=by unfold push;rw [if_pos hc]
      simp only [Bool.and_eq_true,Bool.not_eq_true'] at hc
      have hf:s.1[y.toNat]?=some false:=by
        have:¬ s.1[y.toNat]?=some true:=fun q=>by rw [(z7 e2).2 q] at hc;simp at hc
        rw [List.getElem?_eq_getElem hlt] at this ⊢
        cases hb:s.1[y.toNat] <;> simp_all
      have hs:uc l now (s.1.set y.toNat true):=fun k hk=>by
        rcases setAt hk with q | q
        · have e:(k:Int)=y:=by omega
          rw [e];exact .step hi e1 hc.2
        · exact h2 k q
      rw [hp]
      obtain ⟨a1,a2,a3,a4,a5,a6,a7,a8⟩:=wo hi e (s.1.set y.toNat true,s.2++[y]) (fun x hx=>he x (by simp [hx])) (by simpa using h1) hs
      have hy:(e.foldl (push l now) (s.1.set y.toNat true,s.2++[y])).1[y.toNat]?=some true:=a3 _ (List.getElem?_set_self hlt)
      refine ⟨a1,a2,fun k hk=>a3 k (C4 k hk),?_,fun x hx hxx=>?_,fun x hx=>a6 x (by simp [hx]),fun x hx=>?_,fun k hk=>?_⟩
      · have:=CN hf
        simp only [List.length_append,List.length_cons,List.length_nil] at a4
        omega
      · rcases List.mem_cons.1 hx with rfl | hx
        · exact hy
        · exact a5 x hx hxx
      · rcases a7 x hx with q | q
        · rcases List.mem_append.1 q with q | q
          · exact .inl q
          · simp at q;subst q;exact .inr ⟨e2,hy⟩
        · exact .inr q
      · rcases a8 k hk with q | q
        · rcases setAt q with q | q
          · refine .inr (a6 (k:Int) ?_)
            have e:(k:Int)=y:=by omega
            simp [e]
          · exact .inl q
        · exact .inr q
    · have hp:push l now s y=s:=by unfold push;rw [if_neg hc]
      rw [hp]
      obtain ⟨a1,a2,a3,a4,a5,a6,a7,a8⟩:=wo hi e s (fun x hx=>he x (by simp [hx])) h1 h2
      refine ⟨a1,a2,a3,a4,fun x hx hxx=>?_,a6,a7,a8⟩
      rcases List.mem_cons.1 hx with rfl | hx
      · refine a3 _ ((z7 e2).1 ?_)
        cases hn:nth s.1 x
        · exact absurd (show (!(nth s.1 x)&&!jS (nth l x) now)=true by simp [hn,hxx]) hc
        · rfl
      · exact a5 x hx hxx
theorem Ai (l:List cd) (now:Int):∀ (e:List Int) (s:List Bool×List Int),s.2.length≤(e.foldl (push l now) s).2.length
  | [],s=>Nat.le_refl _
  | y::e,s=>by
    rw [List.foldl_cons]
    refine Nat.le_trans ?_ (Ai l now e _)
    unfold push;split <;> simp
theorem FB {N:Nat} (hN:im≤N) {l:List cd} (h:Ar l) {now:Int} {e:List Int} (he:∀ y,y ∈ e→0≤y∧y≤9) (hl:e.length≤10) {r:List Bool} (hr:r.length=10) {t:List Int} (ht:t.length≤100) :
    iter (fun (s45:(List Bool)×(List Int)×Int)=>(bif (decide (s45.2.2<(e.length:Int))) then ((idx e s45.2.2).bind fun y48=>((idx s45.1 y48).bind fun y63=>bif (!y63) then ((idx l y48).bind fun y77=>(pM N y77 now).bind fun y95=>some (!y95)) else (some false):Option Bool).bind fun j61=>bif j61 then ((idx s45.1 y48).bind fun y99=>(app s45.2.1 [y48]).bind fun y106=>some (.inl (s45.1.set (y48:Int).toNat true,y106,IntKind.i64.wrap (s45.2.2+1)))) else (some (.inl (s45.1,s45.2.1,IntKind.i64.wrap (s45.2.2+1))))) else (some (.inr (s45.1,s45.2.1,s45.2.2))):Option (((List Bool)×(List Int)×Int)⊕((List Bool)×(List Int)×Int)))) N (r,t,0) =
      some ((e.foldl (push l now) (r,t)).1,(e.foldl (push l now) (r,t)).2,(e.length:Int)):=by
  have hB:e.length<im:=Nat.lt_of_le_of_lt hl (by decide)
  rw [show (r,t,(0:Int))=(fun (k:Nat) (s:List Bool×List Int)=>(s.1,s.2,(k:Int))) 0 (r,t) from rfl,
    kV e (fun (k:Nat) (s:List Bool×List Int)=>(s.1,s.2,(k:Int))) (fun _ s y=>push l now s y) (fun s=>(s.1,s.2,(e.length:Int))) (fun k s=>s.1.length=10∧s.2.length≤100+k) ?_ ?_ (Nat.lt_of_lt_of_le hB hN) ⟨hr,ht⟩,l8]
  · intro k s y hy hk ⟨i1,i2⟩
    obtain ⟨y0,y9⟩:=he y (List.mem_of_getElem? hy)
    refine ⟨?_,by
      unfold push
      split
      · simp only [List.length_set,List.length_append,List.length_cons,List.length_nil];omega
      · omega⟩
    have hkB:100+k+1<im:=by have:(16777216:Nat)=im:=rfl;omega
    simp only [jC hk,cond_true,iW,hy,Option.bind_some,(h.at y0 y9).1,Ei,jD (Nat.lt_trans hk hB),jy (l:=s.1) y0 (by omega),kS i2 hkB,lu]
    unfold push
    cases (!(nth s.1 y)&&!jS (nth l y) now) <;> rfl
  · intro s _
    simp only [jB,cond_false]
theorem Dl {N:Nat} (hN:im≤N) {l:List cd} (hb:jo iD l<im) (now:Int):sF N l now=some (reach l now):=by
  unfold sF
  rw [uY hN hb,Option.bind_some]
  cases ha:kh l
  · unfold reach;rw [ha];rfl
  have h:=kz.1 ha
  simp only [Bool.not_true,cond_false]
  rw [show mk Bool 10=some (List.replicate 10 false) from rfl]
  simp only [Option.bind_some]
  rw [show idx (List.replicate 10 false) 0=some false from rfl]
  simp only [Option.bind_some]
  obtain ⟨z,hz,hz1,hz2,hz3,hz4⟩:=AZ (body:=fun (s18:(List Bool)×(List Int))=>(bif (decide ((s18.2.length:Int) > 0)) then ((idx s18.2 0).bind fun y21=>(sub s18.2 1 (s18.2.length:Int)).bind fun y34=>(pG N l y21).bind fun y41=>(iter (fun (s45:(List Bool)×(List Int)×Int)=>(bif (decide (s45.2.2<(y41.length:Int))) then ((idx y41 s45.2.2).bind fun y48=>((idx s45.1 y48).bind fun y63=>bif (!y63) then ((idx l y48).bind fun y77=>(pM N y77 now).bind fun y95=>some (!y95)) else (some false):Option Bool).bind fun j61=>bif j61 then ((idx s45.1 y48).bind fun y99=>(app s45.2.1 [y48]).bind fun y106=>some (.inl (s45.1.set (y48:Int).toNat true,y106,IntKind.i64.wrap (s45.2.2+1)))) else (some (.inl (s45.1,s45.2.1,IntKind.i64.wrap (s45.2.2+1))))) else (some (.inr (s45.1,s45.2.1,s45.2.2))):Option (((List Bool)×(List Int)×Int)⊕((List Bool)×(List Int)×Int)))) N (s18.1,y34,0)).bind fun o111=>some (.inl (o111.1,o111.2.1))) else (some (.inr (s18.1,s18.2))):Option (((List Bool)×(List Int))⊕((List Bool)×(List Int)))))
    (fun s=>s.2.length+2 * sw s.1)
    (fun s=>s.1.length=10∧uc l now s.1∧s.1[0]?=some true∧s.2.length+sw s.1≤10∧(∀ y,y ∈ s.2→0≤y∧s.1[y.toNat]?=some true)∧∀ i:Nat,s.1[i]?=some true→(i:Int) ∈ s.2∨∀ y,y ∈ lF l (i:Int)→jS (nth l y) now=false→s.1[y.toNat]?=some true)
    (fun s=>s.1.length=10∧uc l now s.1∧s.1[0]?=some true∧yy l now s.1 s.1)
    (fun s hI=>by
      obtain ⟨r,t⟩:=s
      obtain ⟨i1,i2,i3,i4,i5,i6⟩:=hI
      simp only at i1 i2 i3 i4 i5 i6
      cases t with
      | nil=>exact .inr ⟨(r,[]),rfl,i1,i2,i3,fun i hi=>by have:=i6 i hi;simpa using this⟩
      | cons x t =>
        left
        obtain ⟨x0,xr⟩:=i5 x (by simp)
        have hx:Reaches l now x:=by have:=i2 x.toNat xr;rwa [show ((x.toNat:Nat):Int)=x by omega] at this
        obtain ⟨_,x9⟩:=hx.xJ h
        have hsub:sub (x::t) 1 ((x::t).length:Int)=some t:=by
          unfold sub
          rw [if_pos ⟨by omega,by simp only [List.length_cons];omega,Int.le_refl _⟩]
          simp
        obtain ⟨e1,e2⟩:=uM h x
        have hpos:decide (((x::t).length:Int) > 0)=true:=by simp
        obtain ⟨a1,a2,a3,a4,a5,a6,a7,a8⟩:=wo hx (lF l x) (r,t) (fun y hy=>⟨hy,e1 y hy⟩) i1 i2
        simp only [List.length_cons] at i4
        refine ⟨(lF l x).foldl (push l now) (r,t),?_,⟨a1,a2,a3 0 i3,by simp only at a4;omega,fun y hy=>?_,fun i hi=>?_⟩,?_⟩
        · simp only [hpos,cond_true]
          rw [show idx (x::t) 0=some x from rfl]
          simp only [Option.bind_some,hsub]
          rw [Fh hN h x0 x9,Option.bind_some,FB hN h e1 e2 i1 (by omega)]
          rfl
        · rcases a7 y hy with q | q
          · obtain ⟨q1,q2⟩:=i5 y (by simp [show y ∈ t from q])
            exact ⟨q1,a3 _ q2⟩
          · exact q
        · rcases a8 i hi with q | q
          · rcases i6 i q with q | q
            · rcases List.mem_cons.1 q with q | q
              · rw [q];exact .inr a5
              · exact .inl (a6 _ q)
            · exact .inr fun y hy hyx=>a3 _ (q y hy hyx)
          · exact .inl q
        · simp only [List.length_cons] at a4 ⊢
          have hle:sw ((lF l x).foldl (push l now) (r,t)).1≤sw r:=by
            have:t.length≤((lF l x).foldl (push l now) (r,t)).2.length:=Ai l now (lF l x) (r,t)
            omega
          omega)
    N ((List.replicate 10 false).set 0 true,[0]) ⟨rfl,Ec l now,rfl,by decide,fun y hy=>by simp at hy;subst hy;exact ⟨by decide,rfl⟩,fun i hi=>by
      rcases setAt hi with q | q
      · subst q;exact .inl (by simp)
      · rw [List.getElem?_replicate] at q;split at q <;> simp at q⟩ (by have:16777216≤N:=hN;simp only [show sw ((List.replicate 10 false).set 0 true)=9 from rfl,List.length_cons,List.length_nil];omega)
  rw [show ((List.replicate 10 false).set (0:Int).toNat true)=(List.replicate 10 false).set 0 true from rfl,hz,Option.bind_some]
  exact congrArg some (HK (EX h hz1 hz2 hz3 hz4) (BW h now))
theorem nS {h:ir} (q:kC h=true):Ar h.ag:=by
  unfold kC at q
  simp only [Bool.and_eq_true] at q
  exact kz.1 q.1
def threads (p:hZ) (now:Int):List Int:=if kl p then mc (fun k b=>b&&((nth p.heap.ag (k:Int)).kind==4)) (fun k _=>(k:Int)) 0 (reach p.heap.ag now) else []
theorem m9 {p:hZ} (h:kl p=true):Ar p.heap.ag:=by
  unfold kl kC at h
  simp only [Bool.and_eq_true] at h
  exact kz.1 h.2.2.2.1.1
theorem vi {p:hZ} {now k:Int} (h:k ∈ threads p now):kl p=true∧0≤k∧k≤9:=by
  unfold threads at h
  split at h
  · rename_i hp
    obtain ⟨j,b,h1,_,h3⟩:=vd.1 h
    have:=jx h1
    rw [qf (m9 hp)] at this
    have h3:k=((0+j:Nat):Int):=h3
    exact ⟨hp,by omega,by omega⟩
  · simp at h
theorem xP {N:Nat} (hN:im≤N) {l:List cd} (h:Ar l) {now:Int} {body:List Int×Int→Option ((List Int×Int)⊕(List Int×Int))}
    (hs:∀ (k:Nat) (t:List Int) (b:Bool),(reach l now)[k]?=some b→k<10→t.length≤k→body (t,(k:Int))=some (.inl (if b&&((nth l (k:Int)).kind==4) then t++[(k:Int)] else t,((k+1:Nat):Int))))
    (he:∀ t,body (t,10)=some (.inr (t,10))):iter body N ([],0)=some (mc (fun k b=>b&&((nth l (k:Int)).kind==4)) (fun k _=>(k:Int)) 0 (reach l now),10):=by
  have hl:=qf h now
  have e:((reach l now).length:Int)=10:=by omega
  rw [r8 (reach l now) (fun k b=>b&&((nth l (k:Int)).kind==4)) (fun k _=>(k:Int)) (by rw [hl];decide) hN,e]
  · intro k t b hb hk ht
    exact hs k t b hb (by omega) ht
  · intro t;rw [e];exact he t
theorem Fb {N:Nat} (hN:im≤N) {p:hZ} (hb:jd p<im) (now:Int):rG N p now=some (threads p now):=by
  unfold rG threads
  rw [yh hN hb,Option.bind_some]
  cases hp:kl p
  · rfl
  have h:=m9 hp
  have hl:=qf h now
  simp only [Bool.not_true,cond_false,Dl hN (kg hb).2.2.2.1,Option.bind_some,if_true]
  rw [xP hN h]
  · rfl
  · intro k t b hy hk ht
    have hd:decide ((k:Int)<((reach p.heap.ag now).length:Int))=true:=by simp;omega
    simp only [hd,cond_true]
    rw [(h.at (i:=(k:Int)) (by omega) (by omega)).1]
    simp only [iW,hy,Option.bind_some,lu,jD (show k<im from Nat.lt_trans hk (by decide)),kS ht (show k+1<im from Nat.lt_trans (Nat.succ_lt_succ hk) (by decide))]
    cases (b&&((nth p.heap.ag (k:Int)).kind==4)) <;> rfl
  · intro t
    simp only [hl];rfl
theorem EJ {N:Nat} (hN:im≤N) {p:hZ} (hb:jd p<im) (hw:wP p) (now:Int):rF N p now=some (threads p now):=by
  unfold rF threads
  rw [x6 hN hb hw,Option.bind_some]
  cases hp:kl p
  · rfl
  have h:=m9 hp
  have hl:=qf h now
  simp only [Bool.not_true,cond_false,Dq hN (kg hb).2.2.2.1 hw,Option.bind_some,if_true]
  rw [xP hN h]
  · rfl
  · intro k t b hy hk ht
    have hd:decide ((k:Int)<((reach p.heap.ag now).length:Int))=true:=by simp;omega
    simp only [hd,cond_true]
    rw [(h.at (i:=(k:Int)) (by omega) (by omega)).1]
    simp only [iW,hy,Option.bind_some,lu,jD (show k<im from Nat.lt_trans hk (by decide)),kS ht (show k+1<im from Nat.lt_trans (Nat.succ_lt_succ hk) (by decide))]
    cases (b&&((nth p.heap.ag (k:Int)).kind==4)) <;> rfl
  · intro t
    simp only [hl];rfl
theorem xS (p:hZ) (now:Int):(threads p now).length<im:=by
  unfold threads
  split
  · rename_i hp
    refine Nat.lt_of_le_of_lt (wK _ _ _ _) ?_
    rw [qf (m9 hp)];decide
  · decide
def lY (p:hZ) (now:Int) (th:Int):Bool:=(threads p now).contains th&&((nth p.heap.ag th).wait==0)
theorem Aa {N:Nat} (hN:im≤N) {p:hZ} (hb:jd p<im) (now th:Int):pP N p now th=some (lY p now th):=by
  unfold pP lY
  simp only [Fb hN hb,Option.bind_some,tf hN (xS p now)]
  cases hc:(threads p now).contains th
  · rfl
  · obtain ⟨h1,h2,h3⟩:=vi (List.contains_iff_mem.1 hc)
    simp only [cond_true,((m9 h1).at h2 h3).1,Option.bind_some,Bool.true_and]
theorem zT {N:Nat} (hN:im≤N) {p:hZ} (hb:jd p<im) (hw:wP p) (now th:Int):pB N p now th=some (lY p now th):=by
  unfold pB lY
  simp only [EJ hN hb hw,Option.bind_some,vL hN (xS p now)]
  cases hc:(threads p now).contains th
  · rfl
  · obtain ⟨h1,h2,h3⟩:=vi (List.contains_iff_mem.1 hc)
    simp only [cond_true,((m9 h1).at h2 h3).1,Option.bind_some,Bool.true_and]
end Go.Kx
/- Plain laws: sizes of what is right; a thing put into an ag; what is born. No program in sight. -/
namespace Go.Kx
open Go
set_option linter.unusedVariables false
set_option linter.unusedSimpArgs false
set_option maxRecDepth 10000
theorem uu {α:Type} {f:α→Nat} {c:Nat}:∀ {l:List α},(∀ y,y ∈ l→f y≤c)→oG f l≤c * l.length
  | [],_=>Nat.zero_le _
  | y::l,h=>by
    have h1:=h y (by simp)
    have h2:=uu (l:=l) fun z hz=>h z (by simp [hz])
    simp only [oG,List.length_cons,Nat.mul_add];omega
theorem Ba {α:Type} {f:α→Nat} {y:α}:∀ {l:List α} {k:Nat},oG f (l.set k y)≤oG f l+f y
  | [],k=>by simp [oG]
  | z::l,0=>by simp only [List.set_cons_zero,oG];omega
  | z::l,k+1=>by
    have:=Ba (f:=f) (y:=y) (l:=l) (k:=k)
    simp only [List.set_cons_succ,oG];omega
theorem xy {α:Type} {f:α→Nat} {y:α} {l:List α} {k:Nat}:jo f (l.set k y)≤jo f l+f y:=by
  have:=Ba (f:=f) (y:=y) (l:=l) (k:=k)
  unfold jo
  simp only [List.length_set];omega
theorem Bz {o:cd} (h:ku o=true):iD o≤12:=by
  have hl:=(tE h).1
  unfold ku at h
  unfold iD
  cases hk:o.kind==0
  · simp only [hk,cond_false,Bool.and_eq_true] at h
    obtain ⟨_,_,_,_,_,hp,hl2,_⟩:=h
    unfold sd at hl2
    simp only [Bool.and_eq_true,decide_eq_true_eq,beq_iff_eq] at hl2
    obtain ⟨_,_,_,_,hd,hq⟩:=hl2
    rw [jE] at hp
    have:o.data.length≤8:=by
      cases h2:o.kind==2
      · rw [h2] at hd;simp only [cond_false] at hd;omega
      · rw [h2] at hd;simp only [cond_true] at hd;omega
    have:o.queue.length≤2:=by
      cases h3:o.kind==3
      · rw [h3] at hq;simp only [cond_false] at hq;omega
      · rw [h3] at hq;simp only [cond_true] at hq;omega
    omega
  · simp only [hk,cond_true,Bool.and_eq_true,decide_eq_true_eq] at h
    rw [h.2.2];simp [blank]
theorem Ar.sz {l:List cd} (h:Ar l):jo iD l≤130:=by
  have h1:=uu (f:=iD) (c:=12) fun y hy=>Bz (h.ok y hy)
  have h2:=h.len
  unfold jo
  rw [h2] at h1 ⊢
  omega
theorem kN {l:List cd} {k:Nat} {o:cd} (h:wA l) (ho:mR o):wA (l.set k o):=fun y hy=>by
  rcases List.mem_or_eq_of_mem_set hy with q | q
  · exact h y q
  · rw [q];exact ho
def kt (o:cd) (g:Int):cd:=cd.mk g o.kind o.box o.res o.iP o.bh o.wait o.iN o.iO o.mark o.ij o.data o.queue
def putAt (l:List cd) (o:cd) (k:Nat) (x:cd):List cd×Int:=if kh (l.set k (kt o (IntKind.i64.wrap (x.gen+1))))&&(o.kind != 0) then (l.set k (kt o (IntKind.i64.wrap (x.gen+1))),(k:Int)) else (l, -1)
def rV (l:List cd) (o:cd):Nat→List cd→List cd×Int
  | _,[]=>(l, -1)
  | k,x::m=>if x.kind != 0 || decide (x.gen ≥ 999) then rV l o (k+1) m else putAt l o k x
def kq (l:List cd) (o:cd):List cd×Int:=if kh l then rV l o 1 (l.drop 1) else (l, -1)
theorem yF {l:List cd} {o:cd} (h:(o.kind != 0)=false):∀ (m:List cd) (k:Nat),rV l o k m=(l, -1)
  | [],k=>rfl
  | x::m,k=>by
    unfold rV putAt
    rw [h,yF h m]
    simp
theorem Bp {ρ:Type} {body:Int→Option (Int⊕ρ)} (l:List cd) (p:cd→Bool) (g:Nat→cd→ρ) (r:ρ) {N:Nat} (hN:l.length+1<N) (hl:1≤l.length)
    (hs:∀ (k:Nat) (x:cd),l[k]?=some x→1≤k→k<l.length→body (k:Int)=some (if p x then .inl ((k+1:Nat):Int) else .inr (g k x))) (he:body (l.length:Int)=some (.inr r)) :
    iter body N 1=some (lT (fun k (_:Unit) x=>if p x then .inl () else .inr (g (k+1) x)) (fun _=>r) 0 () (l.drop 1)):=by
  have hd:(l.drop 1).length+1=l.length:=by simp;omega
  rw [show (1:Int)=(fun (k:Nat) (_:Unit)=>((k+1:Nat):Int)) 0 () from rfl,
    mY (l.drop 1) (fun (k:Nat) (_:Unit)=>((k+1:Nat):Int)) (fun k _ x=>if p x then .inl () else .inr (g (k+1) x)) (fun _=>r) (fun _ _=>True) ?_ ?_ (by omega) trivial]
  · intro k _ x hx hk _
    have hx:l[k+1]?=some x:=by rw [← hx,List.getElem?_drop,Nat.add_comm]
    refine ⟨?_,fun _ _=>trivial⟩
    show body ((k+1:Nat):Int)=_
    rw [hs (k+1) x hx (by omega) (by omega)]
    cases p x <;> rfl
  · intro _ _
    simp only [hd]
    exact he
theorem zw {ρ:Type} (l:List cd) (o:cd) (r:ρ) (c:ρ→Option (List cd×Int)) (g:Nat→cd→ρ) (hr:c r=some (l, -1)) (hg:∀ k x,c (g k x)=some (putAt l o k x)):∀ (m:List cd) (k:Nat),
    c (lT (fun k (_:Unit) x=>if x.kind != 0 || decide (x.gen ≥ 999) then .inl () else .inr (g (k+1) x)) (fun _=>r) k () m)=some (rV l o (k+1) m)
  | [],k=>hr
  | x::m,k=>by
    unfold lT rV
    cases h:(x.kind != 0 || decide (x.gen ≥ 999))
    · simp only [Bool.false_eq_true,if_false];exact hg _ _
    · simp only [if_true];exact zw l o r c g hr hg m (k+1)
theorem z0 (o:cd) (g:Int):iD (kt o g)=iD o:=rfl
theorem vZ {o:cd} {g:Int} (h:mR o):mR (kt o g):=h
theorem FC {l:List cd} (h:Ar l) {o:cd} (ho:iD o≤100000) (k:Nat):jo iD (l.set k o)<im:=by
  have h1:=h.sz
  have h2:=xy (f:=iD) (y:=o) (l:=l) (k:=k)
  have:(16777216:Nat)=im:=rfl
  omega
theorem DR {N:Nat} (hN:im+1≤N) {l:List cd} (hb:jo iD l<im) {o:cd} (ho:iD o≤100000):qc N l o=some (kq l o):=by
  have hN':im≤N:=Nat.le_of_succ_le hN
  have hB:(16777216:Nat)=im:=rfl
  have hoB:iD o<im:=by omega
  unfold qc kq
  simp only [vq hN' hb,uY hN' hb,Option.bind_some,kG]
  cases ha:kh l
  · rfl
  have h:=kz.1 ha
  have hl:=h.len
  simp only [Bool.not_true,Bool.false_or,if_true]
  cases hk:(o.kind != 0)
  · rw [yF hk]
    have:(o.kind==0)=true:=by simpa [bne] using hk
    rw [this];rfl
  · have hk0:(o.kind==0)=false:=by simpa [bne] using hk
    simp only [hk0,cond_false]
    obtain ⟨M,rfl⟩:∃ M,N=M+1:=⟨N - 1,by omega⟩
    have hd:∀ k:Nat,k<l.length→decide ((k:Int)<(l.length:Int))=true:=fun k hk=>jC hk
    have h0:decide ((0:Int)<(l.length:Int))=true:=hd 0 (by omega)
    unfold iter
    simp only [h0,cond_true,(h.at (i:=0) (by omega) (by omega)).1,Option.bind_some,beq_self_eq_true,Bool.true_or,show IntKind.i64.wrap (0+1)=1 from by decide]
    rw [Bp l (fun x=>x.kind != 0 || decide (x.gen ≥ 999)) (fun k x=>if kh (l.set k (kt o (IntKind.i64.wrap (x.gen+1)))) then Sum.inr (l.set k (kt o (IntKind.i64.wrap (x.gen+1))),(k:Int)) else Sum.inr (l, -1)) (Sum.inl (l.length:Int)) (by omega) (by omega)]
    · simp only [Option.bind_some]
      exact zw l o (Sum.inl (l.length:Int)) (fun o73=>Sum.elim (fun o73=>some (l, -1)) (fun r76=>some r76) o73) (fun k x=>if kh (l.set k (kt o (IntKind.i64.wrap (x.gen+1)))) then Sum.inr (l.set k (kt o (IntKind.i64.wrap (x.gen+1))),(k:Int)) else Sum.inr (l, -1)) rfl (fun k x=>by
        unfold putAt
        rw [hk]
        cases kh (l.set k (kt o (IntKind.i64.wrap (x.gen+1)))) <;> rfl) _ 0
    · intro k x hx hk1 hkl
      have hne:((k:Int)==0)=false:=by simp;omega
      have e1:idx (l.set k o) (k:Int)=some o:=Dp hkl
      simp only [hd k hkl,cond_true,iW,hx,Option.bind_some,hne,cond_false,kG,jD (show k<im by omega),vq hN' hb,Au hoB,Int.toNat_natCast,List.getElem?_set_self hkl,List.set_set]
      rw [show cd.mk (IntKind.i64.wrap (x.gen+1)) o.kind o.box o.res o.iP o.bh o.wait o.iN o.iO o.mark o.ij o.data o.queue=kt o (IntKind.i64.wrap (x.gen+1)) from rfl,uY hN' (FC h (by rw [z0];exact ho) k)]
      cases (x.kind != 0 || decide (x.gen ≥ 999))
      · cases kh (l.set k (kt o (IntKind.i64.wrap (x.gen+1)))) <;> rfl
      · rfl
    · simp only [jB,cond_false]
theorem wc {N:Nat} (hN:im≤N) {l:List cd} (hb:jo iD l<im) (hw:wA l) {o:cd} (ho:iD o≤100000) (hwo:mR o):nh N l o=some (kq l o):=by
  have hB:(16777216:Nat)=im:=rfl
  have hoB:iD o<im:=by omega
  unfold nh kq
  simp only [yb hN hb,qb hN hb hw,Option.bind_some]
  cases ha:kh l
  · rfl
  have h:=kz.1 ha
  have hl:=h.len
  simp only [Bool.not_true,cond_false,if_true]
  rw [Bp l (fun x=>x.kind != 0 || decide (x.gen ≥ 999)) (fun k x=>Sum.inr (putAt l o k x)) (Sum.inl (l.length:Int)) (by omega) (by omega)]
  · simp only [Option.bind_some]
    exact zw l o (Sum.inl (l.length:Int)) (fun o84=>Sum.elim (fun o84=>some (l, -1)) (fun r87=>some r87) o84) (fun k x=>Sum.inr (putAt l o k x)) rfl (fun k x=>rfl) _ 0
  · intro k x hx hk1 hkl
    simp only [jC hkl,cond_true,iW,hx,Option.bind_some,kG,jD (show k<im by omega),CK hoB,Int.toNat_natCast]
    rw [show cd.mk (IntKind.i64.wrap (x.gen+1)) o.kind o.box o.res o.iP o.bh o.wait o.iN o.iO o.mark o.ij o.data o.queue=kt o (IntKind.i64.wrap (x.gen+1)) from rfl,qb hN (FC h (by rw [z0];exact ho) k) (kN hw (vZ hwo))]
    simp only [Option.bind_some,kG]
    unfold putAt
    have hk:(o.kind==0)=!(o.kind != 0):=by simp [bne]
    rw [hk]
    cases (x.kind != 0 || decide (x.gen ≥ 999))
    · cases kh (l.set k (kt o (IntKind.i64.wrap (x.gen+1)))) <;> cases (o.kind != 0) <;> rfl
    · rfl
  · simp only [jB,cond_false]
def marked (o:cd) (m:Bool):cd:=cd.mk o.gen o.kind o.box o.res o.iP o.bh o.wait o.iN o.iO m o.ij o.data o.queue
def nT (h:ir) (i:Int):ir:=if kC h&&(iG i 0 9&&((nth h.ag i).kind != 0)) then ir.mk (h.ag.set i.toNat (marked (nth h.ag i) ((h.gc.phase==0) || decide (i ≥ h.gc.pos)))) h.gc else h
theorem FJ {N:Nat} (hN:im≤N) {h:ir} (h1:jo iD h.ag<im) (h2:h.gc.ia.length<im) (i:Int):sZ N h i=some (nT h i):=by
  unfold sZ nT
  simp only [wm hN h1 h2,yl hN h1 h2,tw,Option.bind_some]
  cases q:kC h
  · rfl
  cases hi:iG i 0 9
  · rfl
  have hr:=jE.1 hi
  simp only [cond_true,((nS q).at hr.1 hr.2).1,Option.bind_some,Bool.true_and]
  cases (nth h.ag i).kind != 0
  · rfl
  · cases h.gc.phase==0 <;> rfl
theorem BJ {N:Nat} (hN:im≤N) {h:ir} (h1:jo iD h.ag<im) (h2:h.gc.ia.length<im) (hw:wA h.ag) (i:Int):qX N h i=some (nT h i):=by
  unfold qX nT
  simp only [uZ hN h1 h2,wq hN h1 h2 hw,rW,Option.bind_some,bne]
  cases q:kC h
  · rfl
  cases hi:iG i 0 9
  · rfl
  have hr:=jE.1 hi
  simp only [Bool.not_true,cond_false,((nS q).at hr.1 hr.2).1,Option.bind_some,Bool.true_and]
  cases (nth h.ag i).kind==0
  · cases h.gc.phase==0 <;> rfl
  · rfl
end Go.Kx
/- Plain laws: a new part. No program in sight. -/
namespace Go.Kx
open Go
set_option linter.unusedVariables false
set_option linter.unusedSimpArgs false
set_option maxRecDepth 10000
def qg:List cd:=(List.replicate 10 (blank 0)).set 0 (cd.mk 0 1 (-1) 0 1000000 0 0 0 0 false [-1, -1] [] [])
def vz:cd:=cd.mk 0 4 0 0 1000000 0 0 0 0 false [-1, -1] [] []
def yO:List cd:=qg.set 1 (kt vz 1)
def BD:List cd:=qg.set 1 (marked (kt vz 1) true)
theorem yp (N:Nat):pZ N=some qg:=rfl
theorem BU:kq qg vz=(yO,1):=by decide
theorem D8:wA qg:=by
  intro o ho
  have:∀ o ∈ qg, -9223372036854775808≤o.wait:=by decide
  exact this o ho
theorem FO:wA yO:=by
  intro o ho
  have:∀ o ∈ yO, -9223372036854775808≤o.wait:=by decide
  exact this o ho
def tl:ir:=ir.mk BD (jr.mk 0 0 0 [0])
theorem D2:nT (ir.mk yO (jr.mk 0 0 0 [0])) 1=tl:=by decide
def vx (a:iC):List iz:=(List.replicate 5 uG).set 0 (iz.mk true (-1) a)
theorem z4 (N:Nat) (a:iC):pE N a=some (if jl a then (vx a,true) else ([],false)):=by
  unfold pE
  rw [qZ,Option.bind_some]
  cases jl a <;> rfl
def IB:hZ:=hZ.mk (jf.mk []) [] [] (ir.mk [] (jr.mk 0 0 0 [])) [] 0 0 (iC.mk 0 0 0) 0 0
def tn (b:ka):hZ:=hZ.mk b.label b.own (vx b.j0) tl [] 0 0 (iC.mk 0 0 0) 0 0
def Al (b:ka):Bool:=jl b.j0&&(jH b.label&&lG b.own)
def pF (b:ka):hZ×Bool:=if Al b then (tn b,true) else (IB,false)
theorem Ew:mR vz:=by show (-9223372036854775808:Int)≤0;decide
theorem wg (b:ka):jd (tn b)=kT b+20:=by
  show lQ b.label+(b.own.length+((vx b.j0).length+((jo iD tl.ag+((tl.gc.ia.length+0)+0))+(([]:List je).length+0))))=lQ b.label+(b.own.length+0)+20
  have h1:jo iD tl.ag=14:=by decide
  have h2:tl.gc.ia.length=1:=by decide
  have h3:(vx b.j0).length=5:=rfl
  have h4:([]:List je).length=0:=rfl
  simp only [h1,h2,h3,h4]
  omega
theorem zZ {N:Nat} (hN:im≤N) {b:ka} (hb:kT b≤1048576):pA N b=some (pF b):=by
  have h1:b.label.levels.length<im∧b.own.length<im:=by have:(16777216:Nat)=im:=rfl;unfold kT lQ at hb;omega
  unfold pA pF Al
  simp only [z4,pY hN h1.1,xz hN h1.2,Option.bind_some,kG]
  cases jl b.j0
  · cases jH b.label <;> cases lG b.own <;> rfl
  cases jH b.label
  · rfl
  cases lG b.own
  · rfl
  simp only [if_true,Bool.not_true,Bool.or_self,cond_false,Bool.and_self,yp,Option.bind_some]
  rw [show cd.mk 0 4 0 0 1000000 0 0 0 0 false ([-1, -1]:List Int) [] []=vz from rfl,wc hN (by decide) D8 (by decide) Ew,BU]
  simp only [Option.bind_some]
  rw [show sA N=some (jr.mk 0 0 0 [0]) from rfl]
  simp only [Option.bind_some]
  rw [BJ hN (by decide) (by decide) FO,D2]
  simp only [Option.bind_some]
  rw [show hZ.mk b.label b.own (vx b.j0) tl [] 0 0 (iC.mk 0 0 0) 0 0=tn b from rfl,wV hN (by rw [wg];have:(16777216:Nat)=im:=rfl;omega)]
  rfl
end Go.Kx
/- The plain law of 'FnExactWorldNew'. No program in sight. -/
namespace Go.Kx
open Go
set_option linter.unusedVariables false
set_option linter.unusedSimpArgs false
set_option maxRecDepth 10000
def nn (b:List ka):List hZ:=b.map fun x=>(pF x).1
def v5 (b:List ka):iQ:=if vB b then ⟨0,nn b⟩ else ⟨0,[]⟩
theorem GM {N:Nat} (hN:im≤N) {b:List ka} (hl:b.length<im) {F:ka→Option (hZ×Bool)} (hF:∀ y,y ∈ b→F y=some (pF y)) :
    iter (fun (s10:Int×(List hZ))=>(bif (decide (s10.1<(b.length:Int))) then ((idx b s10.1).bind fun y13=>(F y13).bind fun y28=>(app s10.2 [y28.1]).bind fun y45=>some (.inl (IntKind.i64.wrap (s10.1+1),y45))) else (some (.inr (s10.1,s10.2))):Option ((Int×(List hZ))⊕(Int×(List hZ))))) N (0,[])=some ((b.length:Int),nn b):=by
  have e:∀ (l:List ka) (k:Nat) (acc:List hZ),foldI (fun _ (acc:List hZ) y=>acc++[(pF y).1]) k acc l=acc++nn l:=by
    intro l
    induction l with
    | nil=>intro k acc;simp [foldI,nn]
    | cons y l ih=>intro k acc;unfold foldI;rw [ih];simp [nn]
  rw [show ((0:Int),([]:List hZ))=(fun (k:Nat) (t:List hZ)=>((k:Int),t)) 0 [] from rfl,
    kV b (fun (k:Nat) (t:List hZ)=>((k:Int),t)) (fun _ acc y=>acc++[(pF y).1]) (fun t=>((b.length:Int),t)) (fun k t=>t.length≤k) ?_ ?_ (Nat.lt_of_lt_of_le hl hN) (by simp),e]
  · simp
  · intro k t y hy hk ht
    refine ⟨?_,by simp;omega⟩
    simp only [jC hk,cond_true,iW,hy,Option.bind_some,hF y (List.mem_of_getElem? hy),jD (Nat.lt_trans hk hl),kS ht (Nat.lt_of_le_of_lt hk hl)]
  · intro t _
    simp only [jB,cond_false]
theorem DM {N:Nat} (hN:im≤N) {b:List ka} (hb:jo kT b≤1048576):qm N b=some (v5 b):=by
  have hb':jo kT b<im:=small hb
  unfold qm v5
  rw [FT hN hb',Option.bind_some]
  cases vB b
  · rfl
  · simp only [Bool.not_true,cond_false,if_true]
    rw [GM hN (kY hb') fun y hy=>zZ hN (Nat.le_of_lt_succ (jM (Nat.lt_succ_of_le hb) hy))];rfl
end Go.Kx
