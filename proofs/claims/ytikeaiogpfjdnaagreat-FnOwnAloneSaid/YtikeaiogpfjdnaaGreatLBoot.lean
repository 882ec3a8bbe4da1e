/- Plain laws: ranges, amounts, labels, owned categories, what is started. No program in sight. -/
import Derived.Test.YtikeaiogpfjdnaaGreatHa
namespace Go.Kx
open Go
set_option linter.unusedVariables false
set_option linter.unusedSimpArgs false
set_option maxRecDepth 10000
theorem k5 (p q:Bool):(bif p then some q else some false)=some (p&&q):=by cases p <;> rfl
theorem kO (p q:Bool):(bif p then some true else some q)=some (p || q):=by cases p <;> rfl
def iG (a b c:Int):Bool:=decide (b≤a)&&decide (a≤c)
theorem jv {a b c:Int}:iG a b c=true ↔ b≤a∧a≤c:=by simp [iG]
theorem m6 (N:Nat) (a b c:Int):ja N a b c=some (iG a b c):=k5 _ _
theorem mj (N:Nat) (a b c:Int):i7 N a b c=some (iG a b c):=k5 _ _
def uL (n:Int):Bool:=iG n 0 1000000
theorem H2 (N:Nat) (a:Int):pD N a=some (uL a):=by unfold pD;rw [m6];rfl
theorem yh (N:Nat) (a:Int):l7 N a=some (uL a):=by unfold l7;rw [mj];rfl
def je (a:iB):Bool:=uL a.cd&&(uL a.ij&&uL a.iD)
theorem sK (N:Nat) (a:iB):kJ N a=some (je a):=by unfold kJ;simp only [H2,Option.bind_some,k5];rfl
theorem qn (N:Nat) (a:iB):kp N a=some (je a):=by unfold kp;simp only [yh,Option.bind_some,k5];rfl
def iZ (a b:iB):iB:=iB.mk (IntKind.i64.wrap (a.cd+b.cd)) (IntKind.i64.wrap (a.ij+b.ij)) (IntKind.i64.wrap (a.iD+b.iD))
def kz (a b:iB):iB×Bool:=if je a&&je b&&je (iZ a b) then (iZ a b,true) else (a,false)
theorem tR (N:Nat) (a b:iB):lQ N a b=some (kz a b):=by
  unfold lQ kz
  simp only [sK,Option.bind_some,kO]
  show (bif (!je a || !je b) then some (a,false) else (bif !je (iZ a b) then some (a,false) else some (iZ a b,true)))=_
  cases je a <;> cases je b <;> cases je (iZ a b) <;> rfl
theorem sD (N:Nat) (a b:iB):lC N a b=some (iZ a b):=rfl
theorem Et (N:Nat) (a b:iB):sf N a b=some (kz a b):=by
  unfold sf kz
  simp only [qn,sD,Option.bind_some,kO]
  cases je a <;> cases je b <;> cases je (iZ a b) <;> rfl
def jG (l:jC):Bool:=((l.levels.length:Int)==4)&&l.levels.all fun y=>iG y 0 3
theorem wO {l:jC}:jG l=true ↔ l.levels.length=4∧∀ y,y ∈ l.levels→0≤y∧y≤3:=by
  simp only [jG,Bool.and_eq_true,List.all_eq_true,jv,beq_iff_eq]
  constructor
  · rintro ⟨h1,h2⟩;exact ⟨by omega,h2⟩
  · rintro ⟨h1,h2⟩;exact ⟨by omega,h2⟩
theorem vK {N:Nat} (hN:im≤N) {l:jC} (hb:l.levels.length<im):nK N l=some (jG l):=by
  unfold nK jG
  rw [ke l.levels (fun _ y=>iG y 0 3) (.inl (l.levels.length:Int)) (.inr false) (Nat.lt_of_lt_of_le hb hN),kB]
  · cases h:((l.levels.length:Int)==4)
    · have:((l.levels.length:Int) != 4)=true:=by simp [bne,h]
      simp [this]
    · have:((l.levels.length:Int) != 4)=false:=by simp [bne,h]
      simp only [this,cond_false,Option.bind_some,Bool.true_and]
      cases l.levels.all fun y=>iG y 0 3 <;> rfl
  · intro k y hy hk
    simp only [jt hk,cond_true,iT,hy,Option.bind_some,m6,jx (Nat.lt_trans hk hb)]
    cases iG y 0 3 <;> rfl
  · simp only [jr,cond_false]
theorem v7 {N:Nat} (hN:im≤N) {l:jC} (hb:l.levels.length<im):nN N l=some (jG l):=by
  unfold nN jG
  rw [ke l.levels (fun _ y=>iG y 0 3) (.inl (l.levels.length:Int)) (.inr false) (Nat.lt_of_lt_of_le hb hN),kB]
  · simp only [Option.bind_some]
    cases l.levels.all fun y=>iG y 0 3 <;> simp
  · intro k y hy hk
    simp only [jt hk,cond_true,iT,hy,Option.bind_some,mj,jx (Nat.lt_trans hk hb)]
    cases iG y 0 3 <;> rfl
  · simp only [jr,cond_false]
def vp (l:List Int) (k:Nat) (y:Int):Bool:=iG y 0 3&&match k with
  | 0=>true
  | j+1=>!decide (y≤(l[j]?).getD 0)
def lE (l:List Int):Bool:=allI (vp l) 0 l
theorem CB {l:List Int} {k:Nat} {y:Int} (hy:l[k]?=some y) (hk:k<l.length) (hb:l.length<im) {N:Nat} :
    (bif (!(iG y 0 3)) then (some true) else (bif (decide ((k:Int) > 0)) then ((idx l (IntKind.i64.wrap ((k:Int) - 1))).bind fun y18=>some (decide (y≤y18))) else (some false)):Option Bool)=some (!vp l k y):=by
  have hB:l.length<16777216:=hb
  unfold vp
  cases k with
  | zero =>
    have:decide (((0:Nat):Int) > 0)=false:=by decide
    simp only [this,cond_false]
    cases iG y 0 3 <;> rfl
  | succ j =>
    have:decide (((j+1:Nat):Int) > 0)=true:=by simp
    have e:IntKind.i64.wrap (((j+1:Nat):Int) - 1)=(j:Int):=by rw [iX (by omega) (by omega)];omega
    have hz:l[j]?=some (l[j]'(by omega)):=List.getElem?_eq_getElem _
    simp only [this,cond_true,e,iT,hz,Option.bind_some,Option.getD_some]
    cases iG y 0 3 <;> simp
theorem yx {N:Nat} (hN:im≤N) {l:List Int} (hb:l.length<im):pn N l=some (lE l):=by
  unfold pn lE
  rw [ke l (vp l) (.inl (l.length:Int)) (.inr false) (Nat.lt_of_lt_of_le hb hN)]
  · simp only [Option.bind_some]
    cases allI (vp l) 0 l <;> rfl
  · intro k y hy hk
    simp only [jt hk,cond_true,iT,hy,Option.bind_some,m6,jx (Nat.lt_trans hk hb)]
    rw [CB hy hk hb (N:=N)]
    cases vp l k y <;> rfl
  · simp only [jr,cond_false]
theorem B9 {N:Nat} (hN:im≤N) {l:List Int} (hb:l.length<im):rE N l=some (lE l):=by
  unfold rE lE
  rw [ke l (vp l) (.inl (l.length:Int)) (.inr false) (Nat.lt_of_lt_of_le hb hN)]
  · simp only [Option.bind_some]
    cases allI (vp l) 0 l <;> rfl
  · intro k y hy hk
    simp only [jt hk,cond_true,iT,hy,Option.bind_some,mj,jx (Nat.lt_trans hk hb),ge_iff_le]
    rw [CB hy hk hb (N:=N)]
    cases vp l k y <;> rfl
  · simp only [jr,cond_false]
theorem Gr {N:Nat} (hN:im≤N) {l:List Int} {x:Int} (hb:l.length<im):∃ r,oG N l x=some r∧decide (r ≥ 0)=l.contains x:=by
  unfold oG
  have hB:l.length<16777216:=hb
  rw [show (0:Int)=(fun (k:Nat) (_:Unit)=>(k:Int)) 0 () from rfl,mJ l (fun k (_:Unit)=>(k:Int)) (fun k _ y=>if x==y then .inr (.inr (k:Int)) else .inl ()) (fun _=>.inl (l.length:Int)) (fun _ _=>True) ?_ ?_ (Nat.lt_of_lt_of_le hb hN) trivial]
  · simp only [Option.bind_some]
    have key:∀ (m:List Int) (k:Nat), ∃ r,Sum.elim (fun _=>some (-1)) (fun r16=>some r16) (lD (ρ:=Int⊕Int) (fun (k:Nat) (_:Unit) y=>if x==y then .inr (.inr (k:Int)) else .inl ()) (fun _=>.inl (l.length:Int)) k () m)=some r∧decide (r ≥ 0)=m.contains x:=by
      intro m
      induction m with
      | nil=>intro k;exact ⟨-1,rfl,rfl⟩
      | cons y m ih =>
        intro k
        cases hxy:(x==y)
        · obtain ⟨r,h1,h2⟩:=ih (k+1)
          have hne:x ≠ y:=by simpa using hxy
          refine ⟨r,by simpa [lD,hxy] using h1,by rw [h2];simp [List.contains_cons,hne]⟩
        · have he:x=y:=by simpa using hxy
          exact ⟨k,by simp [lD,hxy],by simp [List.contains_cons,he]⟩
    exact key l 0
  · intro k _ y hy hk _
    simp only [jt hk,cond_true,iT,hy,Option.bind_some,jx (Nat.lt_trans hk hb)]
    cases (x==y) <;> simp
  · intro _ _
    simp only [jr,cond_false]
theorem ss {N:Nat} (hN:im≤N) {l:List Int} {x:Int} (hb:l.length<im):ks N l x=some (l.contains x):=by
  unfold ks
  obtain ⟨r,h1,h2⟩:=Gr hN hb (x:=x)
  rw [h1,Option.bind_some,h2]
def nU (b:List Int):Nat→List Int→List Int
  | _,[]=>[]
  | k,y::l=>if decide (y > (b[k]?).getD 0) then (k:Int)::nU b (k+1) l else nU b (k+1) l
theorem yi (b:List Int):∀ (l:List Int) (k:Nat),(nU b k l).length≤l.length
  | [],_=>Nat.le_refl _
  | y::l,k=>by
    unfold nU
    have:=yi b l (k+1)
    split <;> simp <;> omega
theorem w5 (b:List Int):∀ (l:List Int) (k:Nat) (acc:List Int),foldI (fun k (acc:List Int) y=>if decide (y > (b[k]?).getD 0) then acc++[(k:Int)] else acc) k acc l=acc++nU b k l
  | [],_,acc=>by simp [foldI,nU]
  | y::l,k,acc=>by
    unfold foldI nU
    rw [w5 b l]
    cases decide (y > (b[k]?).getD 0) <;> simp
theorem F9 {N:Nat} (hN:im≤N) {a b:jC} (ha:a.levels.length<im) (hab:a.levels.length≤b.levels.length):ti N a b=some (nU b.levels 0 a.levels):=by
  unfold ti
  rw [show (([]:List Int),(0:Int))=(fun (k:Nat) (t:List Int)=>(t,(k:Int))) 0 [] from rfl,
    lB a.levels (fun k (t:List Int)=>(t,(k:Int))) (fun k acc y=>if decide (y > (b.levels[k]?).getD 0) then acc++[(k:Int)] else acc) (fun t=>(t,(a.levels.length:Int))) (fun k t=>t.length≤k) ?_ ?_ (Nat.lt_of_lt_of_le ha hN) (by simp),w5]
  · simp
  · intro k t y hy hk hI
    have hz:b.levels[k]?=some (b.levels[k]'(by omega)):=List.getElem?_eq_getElem _
    simp only [jt hk,cond_true,iT,hy,hz,Option.bind_some,Option.getD_some,jx (Nat.lt_trans hk ha)]
    cases decide (y > b.levels[k]'(by omega))
    · exact ⟨rfl,by simp;omega⟩
    · have:app t [(k:Int)]=some (t++[(k:Int)]):=by unfold app;rw [if_pos (by simp;omega)]
      simp only [this,Option.bind_some,cond_true,if_true]
      exact ⟨trivial,by simp;omega⟩
  · intro t _
    simp only [jr,cond_false]
def AP (own:List Int) (a b:jC):Bool:=lE own&&(jG a&&(jG b&&allI (fun k y=>!decide (y > (b.levels[k]?).getD 0) || own.contains (k:Int)) 0 a.levels))
theorem zr (b:List Int) (q:Int→Bool):∀ (l:List Int) (k:Nat),(nU b k l).all q=allI (fun k y=>!decide (y > (b[k]?).getD 0) || q (k:Int)) k l
  | [],_=>rfl
  | y::l,k=>by
    unfold nU allI
    rw [← zr b q l (k+1)]
    cases decide (y > (b[k]?).getD 0) <;> simp
theorem Db {N:Nat} (hN:im≤N) {own:List Int} {a b:jC} (ho:own.length<im) (ha:a.levels.length<im) (hb:b.levels.length<im):pQ N own a b=some (AP own a b):=by
  unfold pQ AP
  simp only [B9 hN ho,v7 hN ha,v7 hN hb,Option.bind_some,kO]
  cases h1:lE own
  · rfl
  cases h2:jG a
  · rfl
  cases h3:jG b
  · rfl
  have l2:=(wO.1 h2).1
  have l3:=(wO.1 h3).1
  have hl:=yi b.levels a.levels 0
  have hB:(nU b.levels 0 a.levels).length<im:=Nat.lt_of_le_of_lt hl ha
  simp only [Bool.not_true,Bool.or_self,cond_false,F9 hN ha (b:=b) (by omega),Option.bind_some,Bool.true_and]
  rw [ke (nU b.levels 0 a.levels) (fun _ y=>own.contains y) (.inl ((nU b.levels 0 a.levels).length:Int)) (.inr false) (Nat.lt_of_lt_of_le hB hN),kB,zr]
  · simp only [Option.bind_some]
    cases allI _ 0 a.levels <;> rfl
  · intro k y hy hk
    simp only [jt hk,cond_true,iT,hy,Option.bind_some,ss hN ho,jx (Nat.lt_trans hk hB)]
    cases own.contains y <;> rfl
  · simp only [jr,cond_false]
def sC:iB→List jY→Bool
  | _,[]=>true
  | a,b::l=>(kz a b.jT).2&&(jG b.label&&(lE b.own&&sC (kz a b.jT).1 l))
def uN (l:List jY):Bool:=sC ⟨0,0,0⟩ l&&iG (l.length:Int) 1 3
theorem xC (e:Int) (g:Nat→iB→jY→iB⊕((Int×Int×Int×Int)⊕Bool)) (fin:iB→((Int×Int×Int×Int)⊕Bool)) (k:Option Bool)
    (hg:∀ k t y,g k t y=if (kz t y.jT).2&&(jG y.label&&lE y.own) then .inl (kz t y.jT).1 else .inr (.inr false)) (hf:∀ t, ∃ v,fin t=.inl v) :
    ∀ (l:List jY) (j:Nat) (t:iB),Sum.elim (fun _=>k) (fun r=>some r) (lD g fin j t l)=bif sC t l then k else some false
  | [],j,t=>by obtain ⟨v,hv⟩:=hf t;simp [lD,sC,hv]
  | b::l,j,t=>by
    have ih:=xC e g fin k hg hf l (j+1)
    simp only [lD,sC,hg]
    cases (kz t b.jT).2
    · rfl
    cases jG b.label
    · rfl
    cases lE b.own
    · rfl
    simpa using ih _
theorem GG {l:List jY} {y:jY} (hb:jl kI l<im) (hy:y ∈ l):y.label.levels.length<im∧y.own.length<im:=by
  have:=nS hb hy
  unfold kI lA at this
  omega
theorem E5 {N:Nat} (hN:im≤N) {l:List jY} (hb:jl kI l<im):so N l=some (uN l):=by
  have hl:=o7 hb
  have hN':16777216≤N:=hN
  have hlB:l.length<16777216:=hl
  unfold so uN
  rw [show ((0:Int),(0:Int),(0:Int),(0:Int))=(fun (k:Nat) (t:iB)=>((k:Int),t.cd,t.ij,t.iD)) 0 ⟨0,0,0⟩ from rfl,
    mJ (l.take 3) (fun (k:Nat) (t:iB)=>((k:Int),t.cd,t.ij,t.iD)) (fun k t y=>if (kz t y.jT).2&&(jG y.label&&lE y.own) then .inl (kz t y.jT).1 else .inr (.inr false)) (fun t=>.inl (((l.take 3).length:Int),t.cd,t.ij,t.iD)) (fun _ _=>True) ?_ ?_ (by simp;omega) trivial]
  · simp only [Option.bind_some,m6]
    rw [xC 0 _ _ _ (fun _ _ _=>rfl) (fun t=>⟨_,rfl⟩),k5]
    rcases Nat.lt_or_ge 3 l.length with h | h
    · have:iG (l.length:Int) 1 3=false:=by simp [iG];omega
      simp [this]
    · rw [List.take_of_length_le h]
  · intro k t y hy hk _
    have hk2:k<3∧k<l.length:=by simp at hk;omega
    rw [List.getElem?_take_of_lt hk2.1] at hy
    obtain ⟨b1,b2⟩:=GG hb (List.mem_of_getElem? hy)
    refine ⟨?_,fun _ _=>trivial⟩
    have h3:decide ((k:Int)<3)=true:=by simp;omega
    simp only [jt hk2.2,h3,cond_true,iT,hy,Option.bind_some,tR,vK hN b1,yx hN b2,kO,jx (show k<im from Nat.lt_trans hk2.1 (by decide))]
    cases h1:(kz t y.jT).2
    · cases jG y.label <;> cases lE y.own <;> rfl
    cases jG y.label
    · rfl
    cases lE y.own <;> rfl
  · intro t _
    simp only [List.length_take]
    rcases Nat.lt_or_ge 3 l.length with h | h
    · have e:min 3 l.length=3:=by omega
      have h3:decide (((3:Nat):Int)<(l.length:Int))=true:=by simp;omega
      simp only [e,h3,cond_true];rfl
    · have e:min 3 l.length=l.length:=by omega
      simp only [e,jr,cond_false,Option.bind_some]
end Go.Kx
/- Plain laws: the first draws come to an end. No program in sight. -/
namespace Go.Kx
open Go
set_option linter.unusedVariables false
set_option linter.unusedSimpArgs false
set_option maxRecDepth 10000
theorem uO {σ ρ:Type} {body:σ→Option (σ⊕ρ)} (I:σ→Prop) (J:ρ→Prop) (μ:σ→Nat)
    (h:∀ s,I s→∃ o,body s=some o∧(∀ s',o=.inl s'→I s'∧μ s'<μ s)∧∀ r,o=.inr r→J r):∀ (N:Nat) (s:σ),I s→μ s<N→∃ r,iter body N s=some r∧J r
  | 0,_,_,hN=>absurd hN (Nat.not_lt_zero _)
  | N+1,s,hI,hN=>by
    obtain ⟨o,ho,h1,h2⟩:=h s hI
    cases o with
    | inl s' =>
      obtain ⟨hI',hm⟩:=h1 s' rfl
      obtain ⟨r,hr,hJ⟩:=uO I J μ h N s' hI' (by omega)
      exact ⟨r,by show (body s).bind _=_;rw [ho];exact hr,hJ⟩
    | inr r=>exact ⟨r,by show (body s).bind _=_;rw [ho];rfl,h2 r rfl⟩
theorem vW {α:Type} {l:List α} {i:Int} (h0:0≤i) (h1:i<(l.length:Int)):∃ y,idx l i=some y∧y ∈ l:=by
  have hz:l[i.toNat]?=some (l[i.toNat]'(by omega)):=List.getElem?_eq_getElem _
  exact ⟨_,by unfold idx;rw [if_pos h0,hz],List.getElem_mem _⟩
theorem Cl (a:Int) {m:Int} (h0:0≤m) (h1:m≤2147483647):0≤vz a m∧vz a m≤m:=by
  have h:(BitVec.ofInt IntKind.i64.bits a &&& BitVec.ofInt IntKind.i64.bits m).toNat≤m.toNat:=by
    rw [BitVec.toNat_and]
    refine Nat.le_trans Nat.and_le_right ?_
    rw [BitVec.toNat_ofInt]
    show (m % ((2 ^ 64:Nat):Int)).toNat≤m.toNat
    rw [Int.emod_eq_of_lt h0 (by omega)]
    exact Nat.le_refl _
  unfold vz
  rw [iX (by omega) (by omega)]
  omega
def Cu (c:iq):Prop:=c.b.length≤1048576∧0≤c.i
theorem Cu.to {c:iq} (hc:Cu c) {i h:Int} (hi:0≤i):Cu ⟨c.b,i,h⟩:=⟨hc.1,hi⟩
theorem HE {N:Nat} (hN:im≤N) {l:List U8} (hl:l.length≤1048576):∃ h,rp N l=some ⟨l,0,h⟩:=by
  unfold rp
  have hB:(16777216:Nat)≤N:=hN
  obtain ⟨r,hr,_⟩:=uO (body:=fun (s1:Int×Int)=>((bif (decide (s1.2<(l.length:Int))) then (some (decide (s1.2<4000))) else (some false):Option Bool).bind fun j3=>bif j3 then ((idx l s1.2).bind fun y8=>some (.inl (vz (IntKind.i64.wrap ((IntKind.i64.wrap ((IntKind.i64.wrap (s1.1 * 131))+(IntKind.i64.wrap y8.v)))+7)) 1073741823,IntKind.i64.wrap (s1.2+1)))) else (some (.inr (s1.1,s1.2))):Option ((Int×Int)⊕(Int×Int))))
    (fun s=>0≤s.2∧s.2≤(l.length:Int)) (fun _=>True) (fun s=>((l.length:Int) - s.2).toNat) (by
      rintro ⟨h,i⟩ ⟨h0,h1⟩
      simp only at h0 h1
      cases hlt:decide (i<(l.length:Int)) with
      | false=>exact ⟨_,by simp only [hlt,cond_false,Option.bind_some];rfl,by simp,fun _ _=>trivial⟩
      | true =>
        have h2:=of_decide_eq_true hlt
        cases h4:decide (i<4000) with
        | false=>exact ⟨_,by simp only [hlt,h4,cond_false,cond_true,Option.bind_some];rfl,by simp,fun _ _=>trivial⟩
        | true =>
          obtain ⟨y,hy,_⟩:=vW h0 h2
          refine ⟨_,by simp only [hlt,h4,hy,cond_true,Option.bind_some];rfl,?_,by simp⟩
          rintro s' hs
          cases Sum.inl.inj hs
          simp only
          rw [iX (by omega) (by omega)]
          omega) N (IntKind.i64.wrap (10101+(l.length:Int)),0) ⟨Int.le_refl _,by simp⟩ (by simp only;omega)
  rw [hr]
  exact ⟨r.1,rfl⟩
theorem vV {N:Nat} {c:iq} (hc:Cu c):∃ x i h,mC N c=some (x,⟨c.b,i,h⟩)∧0≤i∧0≤x∧x≤255:=by
  unfold mC
  obtain ⟨hb,hi⟩:=hc
  cases hlt:decide (c.i<(c.b.length:Int)) with
  | true =>
    have h1:=of_decide_eq_true hlt
    obtain ⟨y,hy,_⟩:=vW hi h1
    simp only [hy,cond_true,Option.bind_some]
    exact ⟨_,_,_,rfl,by rw [iX (by omega) (by omega)];omega,Cl _ (by decide) (by decide)⟩
  | false=>exact ⟨_,_,_,rfl,hi,Cl _ (by decide) (by decide)⟩
theorem A0 {a n:Int} (ha:0≤a) (hn:0<n):0≤Int.tmod a n∧Int.tmod a n<n:=by
  rw [Int.tmod_eq_emod_of_nonneg ha]
  exact ⟨Int.emod_nonneg _ (by omega),Int.emod_lt_of_pos _ hn⟩
theorem Fv {n:Int} (h:n ≠ 0):dz n=some ():=by unfold dz;rw [if_neg h]
theorem rz {N:Nat} {c:iq} (hc:Cu c) (n:Int):∃ x i h,ir N c n=some (x,⟨c.b,i,h⟩)∧0≤i∧0≤x∧(0<n→x<n)∧(n≤0→x=0):=by
  unfold ir
  cases h0:decide (n≤0) with
  | true=>exact ⟨0,c.i,c.h,rfl,hc.2,Int.le_refl _,fun h=>h,fun _=>rfl⟩
  | false =>
    have hn:=of_decide_eq_false h0
    simp only [cond_false]
    cases h1:decide (n≤256) with
    | true =>
      obtain ⟨x,i,h,e,hi,hx,_⟩:=vV (N:=N) hc
      simp only [cond_true,e,Option.bind_some,Fv (show n ≠ 0 by omega)]
      obtain ⟨q1,q2⟩:=A0 hx (show 0<n by omega)
      exact ⟨_,i,h,rfl,hi,q1,fun _=>q2,fun h=>by omega⟩
    | false =>
      obtain ⟨x1,i1,h1,e1,hi1,hx1,hy1⟩:=vV (N:=N) hc
      obtain ⟨x2,i2,h2,e2,hi2,hx2,hy2⟩:=vV (N:=N) (hc.to (h:=h1) hi1)
      obtain ⟨x3,i3,h3,e3,hi3,hx3,hy3⟩:=vV (N:=N) (hc.to (h:=h2) hi2)
      obtain ⟨x4,i4,h4,e4,hi4,hx4,hy4⟩:=vV (N:=N) (hc.to (h:=h3) hi3)
      simp only [cond_false,e1,e2,e3,e4,Option.bind_some,Fv (show n ≠ 0 by omega)]
      rw [iX (n:=x1 * 16777216) (by omega) (by omega),iX (n:=x2 * 65536) (by omega) (by omega),iX (n:=x3 * 256) (by omega) (by omega),
        iX (n:=x1 * 16777216+x2 * 65536) (by omega) (by omega),iX (n:=x1 * 16777216+x2 * 65536+x3 * 256) (by omega) (by omega),iX (n:=x1 * 16777216+x2 * 65536+x3 * 256+x4) (by omega) (by omega)]
      obtain ⟨q1,q2⟩:=A0 (show 0≤x1 * 16777216+x2 * 65536+x3 * 256+x4 by omega) (show 0<n by omega)
      exact ⟨_,i4,h4,rfl,hi4,q1,fun _=>q2,fun h=>by omega⟩
theorem Ao {N:Nat} {c:iq} (hc:Cu c) (n:Int):∃ x i h,jE N c n=some (x,⟨c.b,i,h⟩)∧0≤i:=by
  unfold jE
  obtain ⟨x,i,h,e,hi,_⟩:=rz (N:=N) hc n
  simp only [e,Option.bind_some]
  exact ⟨_,i,h,rfl,hi⟩
theorem vD {N:Nat} {c:iq} (hc:Cu c) {l:List Int} (hl:0<l.length):∃ x i h,iW N c l=some (x,⟨c.b,i,h⟩)∧0≤i∧x ∈ l:=by
  unfold iW
  obtain ⟨x,i,h,e,hi,hx,hy,_⟩:=rz (N:=N) hc (l.length:Int)
  obtain ⟨y,hy,hm⟩:=vW hx (hy (by omega))
  simp only [e,Option.bind_some,hy]
  exact ⟨_,i,h,rfl,hi,hm⟩
theorem sv {α:Type} {t:List α} {z:α} (h:t.length≤1000000):app t [z]=some (t++[z]):=by
  have:(16777216:Nat)=im:=rfl
  unfold app;rw [if_pos (by simp only [List.length_cons,List.length_nil];omega)]
theorem B6 {N:Nat} (hN:im≤N) {c:iq} (hc:Cu c):∃ x i h,mH N c=some (x,⟨c.b,i,h⟩)∧0≤i∧x.levels.length=4∧∀ y,y ∈ x.levels→0≤y∧y≤3:=by
  unfold mH
  have hB:(16777216:Nat)≤N:=hN
  obtain ⟨r,hr,hJ⟩:=uO (body:=fun (s6:Int×Int×Int×(List Int))=>(bif (decide (s6.1<4)) then ((ir N (iq.mk c.b s6.2.1 s6.2.2.1) 4).bind fun y9=>(app s6.2.2.2 ([y9.1]:List Int)).bind fun y16=>some (.inl (IntKind.i64.wrap (s6.1+1),y9.2.i,y9.2.h,y16))) else (some (.inr (s6.1,s6.2.1,s6.2.2.1,s6.2.2.2))):Option ((Int×Int×Int×(List Int))⊕(Int×Int×Int×(List Int)))))
    (fun s=>0≤s.1∧s.1≤4∧0≤s.2.1∧(s.2.2.2.length:Int)=s.1∧∀ y,y ∈ s.2.2.2→0≤y∧y≤3) (fun s=>0≤s.2.1∧s.2.2.2.length=4∧∀ y,y ∈ s.2.2.2→0≤y∧y≤3) (fun s=>(4 - s.1).toNat) (by
      rintro ⟨k,i,h,l⟩ ⟨h0,h1,h2,h3,h4⟩
      simp only at h0 h1 h2 h3 h4
      cases hlt:decide (k<4) with
      | false =>
        have:=of_decide_eq_false hlt
        refine ⟨_,by simp only [hlt,cond_false];rfl,by simp,fun r hr=>?_⟩
        cases Sum.inr.inj hr
        exact ⟨h2,by simp only;omega,h4⟩
      | true =>
        have:=of_decide_eq_true hlt
        obtain ⟨x,i',h',e,hi,hx,hy,_⟩:=rz (N:=N) (hc.to (h:=h) h2) 4
        refine ⟨_,by simp only [hlt,cond_true,e,Option.bind_some,sv (t:=l) (z:=x) (by omega)];rfl,?_,by simp⟩
        rintro s' hs
        cases Sum.inl.inj hs
        simp only
        rw [iX (by omega) (by omega)]
        refine ⟨⟨by omega,by omega,hi,by simp only [List.length_append,List.length_cons,List.length_nil];omega,fun y hm=>?_⟩,by omega⟩
        rcases List.mem_append.1 hm with hm | hm
        · exact h4 y hm
        · rw [List.mem_singleton] at hm
          have:=hy (by omega)
          omega) N (0,c.i,c.h,[]) ⟨Int.le_refl _,by simp,hc.2,rfl,by simp⟩ (by simp only;omega)
  rw [hr]
  exact ⟨_,_,_,rfl,hJ.1,hJ.2.1,hJ.2.2⟩
theorem C7 {N:Nat} (hN:im≤N) {c:iq} (hc:Cu c):∃ x i h,rK N c=some (x,⟨c.b,i,h⟩)∧0≤i∧x.levels.length≤5:=by
  unfold rK
  obtain ⟨x,i,h,e,hi,hl,_⟩:=B6 hN hc
  obtain ⟨x1,i1,h1,e1,hi1,_⟩:=rz (N:=N) (hc.to (h:=h) hi) 14
  obtain ⟨x2,i2,h2,e2,hi2,hx2,hy2,_⟩:=rz (N:=N) (hc.to (h:=h1) hi1) 4
  have hy2:=hy2 (by decide)
  obtain ⟨x3,i3,h3,e3,hi3,_⟩:=vD (N:=N) (hc.to (h:=h2) hi2) (l:=[-1,4]) (by decide)
  simp only [e,e1,Option.bind_some]
  cases x1==0
  · cases x1==1
    · cases x1==2
      · exact ⟨_,i1,h1,rfl,hi1,by simp only;omega⟩
      · simp only [cond_true,cond_false,sv (t:=x.levels) (z:=0) (by omega),Option.bind_some]
        exact ⟨_,i1,h1,rfl,hi1,by simp only [List.length_append,List.length_cons,List.length_nil];omega⟩
    · obtain ⟨y,hy,_⟩:=vW (l:=x.levels) hx2 (by omega)
      simp only [cond_true,cond_false,e2,e3,hy,Option.bind_some]
      exact ⟨_,i3,h3,rfl,hi3,by simp only [List.length_set];omega⟩
  · have hs:sub x.levels 0 x2=some ((x.levels.drop (0:Int).toNat).take (x2.toNat - (0:Int).toNat)):=by unfold sub;rw [if_pos ⟨Int.le_refl _,hx2,by omega⟩]
    simp only [cond_true,e2,hs,Option.bind_some]
    exact ⟨_,i2,h2,rfl,hi2,by simp only [List.length_take,List.length_drop];omega⟩
theorem HC {N:Nat} (hN:im≤N) {c:iq} (hc:Cu c):∃ x i h,rO N c=some (x,⟨c.b,i,h⟩)∧0≤i∧x.length≤5:=by
  unfold rO
  have hB:(16777216:Nat)≤N:=hN
  obtain ⟨r,hr,hJ⟩:=uO (body:=fun (s4:(List Int)×Int×Int×Int)=>(bif (decide (s4.2.1<4)) then ((jE N (iq.mk c.b s4.2.2.1 s4.2.2.2) 3).bind fun y7=>bif y7.1 then ((app s4.1 [s4.2.1]).bind fun y14=>some (.inl (y14,IntKind.i64.wrap (s4.2.1+1),y7.2.i,y7.2.h))) else (some (.inl (s4.1,IntKind.i64.wrap (s4.2.1+1),y7.2.i,y7.2.h)))) else (some (.inr (s4.1,s4.2.1,s4.2.2.1,s4.2.2.2))):Option (((List Int)×Int×Int×Int)⊕((List Int)×Int×Int×Int))))
    (fun s=>0≤s.2.1∧s.2.1≤4∧0≤s.2.2.1∧(s.1.length:Int)≤s.2.1) (fun s=>0≤s.2.2.1∧s.1.length≤4) (fun s=>(4 - s.2.1).toNat) (by
      rintro ⟨l,k,i,h⟩ ⟨h0,h1,h2,h3⟩
      simp only at h0 h1 h2 h3
      cases hlt:decide (k<4) with
      | false =>
        have:=of_decide_eq_false hlt
        refine ⟨_,by simp only [hlt,cond_false];rfl,by simp,fun r hr=>?_⟩
        cases Sum.inr.inj hr
        exact ⟨h2,by simp only;omega⟩
      | true =>
        have:=of_decide_eq_true hlt
        obtain ⟨x,i',h',e,hi⟩:=Ao (N:=N) (hc.to (h:=h) h2) 3
        cases x with
        | false =>
          refine ⟨_,by simp only [hlt,cond_true,cond_false,e,Option.bind_some];rfl,?_,by simp⟩
          rintro s' hs
          cases Sum.inl.inj hs
          simp only
          rw [iX (by omega) (by omega)]
          exact ⟨⟨by omega,by omega,hi,by omega⟩,by omega⟩
        | true =>
          refine ⟨_,by simp only [hlt,cond_true,e,Option.bind_some,sv (t:=l) (z:=k) (by omega)];rfl,?_,by simp⟩
          rintro s' hs
          cases Sum.inl.inj hs
          simp only
          rw [iX (by omega) (by omega)]
          exact ⟨⟨by omega,by omega,hi,by simp only [List.length_append,List.length_cons,List.length_nil];omega⟩,by omega⟩) N ([],0,c.i,c.h) ⟨Int.le_refl _,by simp,hc.2,by simp⟩ (by simp only;omega)
  rw [hr]
  obtain ⟨j1,j2⟩:=hJ
  obtain ⟨x1,i1,h1,e1,hi1,_⟩:=rz (N:=N) (hc.to (h:=r.2.2.2) j1) 20
  simp only [e1,Option.bind_some,sv (t:=r.1) (z:=(4:Int)) (by omega),sv (t:=r.1) (z:=(0:Int)) (by omega)]
  cases x1==0
  · cases x1==1
    · exact ⟨_,i1,h1,rfl,hi1,by omega⟩
    · exact ⟨_,i1,h1,rfl,hi1,by simp only [List.length_append,List.length_cons,List.length_nil];omega⟩
  · exact ⟨_,i1,h1,rfl,hi1,by simp only [List.length_append,List.length_cons,List.length_nil];omega⟩
theorem C0 {N:Nat} {c:iq} (hc:Cu c):∃ x i h,pN N c=some (x,⟨c.b,i,h⟩)∧0≤i:=by
  unfold pN
  obtain ⟨x,i,h,e,hi⟩:=Ao (N:=N) hc 20
  simp only [e,Option.bind_some]
  cases x
  · obtain ⟨x1,i1,h1,e1,hi1,_⟩:=rz (N:=N) (hc.to (h:=h) hi) 60
    simp only [cond_false,e1,Option.bind_some]
    exact ⟨_,i1,h1,rfl,hi1⟩
  · obtain ⟨x1,i1,h1,e1,hi1,_⟩:=vD (N:=N) (hc.to (h:=h) hi) (l:=[-1,1000000,1000001,999999]) (by decide)
    simp only [cond_true,e1,Option.bind_some]
    exact ⟨_,i1,h1,rfl,hi1⟩
theorem Ht {N:Nat} {c:iq} (hc:Cu c):∃ x i h,rP N c=some (x,⟨c.b,i,h⟩)∧0≤i:=by
  unfold rP
  obtain ⟨x1,i1,h1,e1,hi1⟩:=C0 (N:=N) hc
  obtain ⟨x2,i2,h2,e2,hi2⟩:=C0 (N:=N) (hc.to (h:=h1) hi1)
  obtain ⟨x3,i3,h3,e3,hi3⟩:=C0 (N:=N) (hc.to (h:=h2) hi2)
  simp only [e1,e2,e3,Option.bind_some]
  exact ⟨_,i3,h3,rfl,hi3⟩
end Go.Kx
/- Plain laws: trees of reserves. No program in sight. -/
namespace Go.Kx
open Go
set_option linter.unusedVariables false
set_option linter.unusedSimpArgs false
set_option maxRecDepth 10000
def nth {α:Type} [iw α] (l:List α) (i:Int):α:=(l[i.toNat]?).getD iw.zero
theorem jj {α:Type} [iw α] {l:List α} {i:Int} (h0:0≤i) (h1:i<(l.length:Int)):idx l i=some (nth l i):=by
  have hz:l[i.toNat]?=some (l[i.toNat]'(by omega)):=List.getElem?_eq_getElem _
  unfold idx nth
  rw [if_pos h0,hz];rfl
theorem xH {α:Type} [iw α] {l:List α} {i a b:Int} (h:iG i a b=true) (ha:0≤a) (hb:b<(l.length:Int)):idx l i=some (nth l i):=by
  rw [jv] at h
  exact jj (by omega) (by omega)
theorem Av {α:Type} [iw α] {l:List α} {k:Nat} {y:α} (h:l[k]?=some y):nth l (k:Int)=y:=by simp [nth,h]
theorem m7 {α:Type} [iw α] {l:List α} {i:Int} (h0:0≤i) (h1:i<(l.length:Int)):nth l i ∈ l:=by
  have hz:l[i.toNat]?=some (l[i.toNat]'(by omega)):=List.getElem?_eq_getElem _
  unfold nth;rw [hz];exact List.getElem_mem _
theorem va {α:Type} {l:List α} {n:Nat} (h:((l.length:Int) != (n:Int))=false):l.length=n:=by simp at h;omega
theorem te (N:Nat) (a:Int):kM N a=some (iG a 0 4):=by unfold kM;rw [mj];rfl
theorem tC (N:Nat) (a:Int):lg N a=some (iG a 0 4):=by unfold lg;rw [m6];rfl
def jD (t:List iy) (i:Int):Bool:=iG i 0 4&&(nth t i).live
def up (t:List iy) (i:Int):Int:=(nth t i).parent
def leads (t:List iy):Nat→Int→Bool
  | 0,_=>false
  | n+1,i=>(i==0) || (jD t i&&leads t n (up t i))
def jK (t:List iy):Nat→Int→Int
  | 0,a=>a
  | n+1,a=>if a > 0 then jK t n (up t a) else a
theorem rk (N:Nat) {t:List iy} (h:t.length=5) (i:Int):lu N t i=some (jD t i):=by
  unfold lu jD
  rw [te,Option.bind_some]
  cases hi:iG i 0 4
  · rfl
  · simp only [cond_true,xH hi (by omega) (show (4:Int)<(t.length:Int) by omega),Option.bind_some,Bool.true_and]
theorem HV {k:Nat} (h:k<(List.replicate 5 ()).length):k<5∧decide ((k:Int)<5)=true:=by
  have h:k<5:=by simpa using h
  exact ⟨h,by simp;omega⟩
theorem G7 {k n:Nat} {N:Nat} (hN:im≤N) (hn:n<16777216):(List.replicate n ()).length<N:=by
  have:16777216≤N:=hN
  simp;omega
theorem DD {N:Nat} (hN:im≤N) {t:List iy} (h:t.length=5) (i:Int):qz N t i=some (leads t 5 i):=by
  unfold qz
  rw [show ((i,0):Int×Int)=(fun (k:Nat) (a:Int)=>(a,(k:Int))) 0 i from rfl,
    mJ (List.replicate 5 ()) (fun (k:Nat) (a:Int)=>(a,(k:Int))) (fun _ a _=>if a==0 then .inr (.inr true) else if jD t a then .inl (up t a) else .inr (.inr false)) (fun a=>.inl (a,5)) (fun _ _=>True) ?_ ?_ (G7 (k:=0) hN (by decide)) trivial]
  · have key:∀ (n k:Nat) (a:Int),Sum.elim (fun _=>some false) (fun r20=>some r20) (lD (ρ:=(Int×Int)⊕Bool) (fun (_:Nat) a (_:Unit)=>if a==0 then .inr (.inr true) else if jD t a then .inl (up t a) else .inr (.inr false)) (fun a=>.inl (a,5)) k a (List.replicate n ()))=some (leads t n a):=by
      intro n
      induction n with
      | zero=>intro k a;rfl
      | succ n ih =>
        intro k a
        rw [List.replicate_succ]
        unfold lD leads
        cases h0:(a==0)
        · cases h1:jD t a
          · rfl
          · simpa using ih (k+1) (up t a)
        · rfl
    exact key 5 0 i
  · intro k a y hy hk _
    obtain ⟨h5,hd⟩:=HV hk
    refine ⟨?_,fun _ _=>trivial⟩
    simp only [hd,cond_true,rk N h,Option.bind_some]
    cases h0:(a==0)
    · cases h1:jD t a
      · rfl
      · have hin:iG a 0 4=true:=by unfold jD at h1;simp at h1;exact h1.1
        simp only [xH hin (by omega) (show (4:Int)<(t.length:Int) by omega),jx (show k<im from Nat.lt_trans h5 (by decide)),Option.bind_some]
        rfl
    · rfl
  · intro a _
    rfl
def tS:iy:=iy.mk false 0 (iB.mk 0 0 0)
def pe (t:List iy) (k:Nat) (r:iy):Bool:=if r.live then je r.iU&&leads t 5 (k:Int) else decide (r=tS)
def jA (s:iB) (t:List iy):iB:=t.foldl (fun s r=>if r.live then iZ s r.iU else s) s
def ki (t:List iy):Bool:=!((t.length:Int) != 5)&&((nth t 0).live&&(!((nth t 0).parent != (-1))&&(allI (pe t) 0 t&&je (jA ⟨0,0,0⟩ t))))
theorem sP {N:Nat} (hN:im≤N) {t:List iy}:lT N t=some (ki t):=by
  unfold lT ki
  cases h5:((t.length:Int) != 5)
  · have hl:t.length=5:=va (n:=5) h5
    have hB:t.length<im:=by rw [hl];decide
    rw [jj (l:=t) (i:=0) (by omega) (by omega)]
    simp only [cond_false,Option.bind_some,kO,Bool.not_false,Bool.true_and]
    cases h1:(nth t 0).live
    · rfl
    cases h2:((nth t 0).parent != (-1))
    · simp only [Bool.not_true,Bool.or_self,cond_false,Bool.true_and,Bool.not_false]
      rw [show ((0:Int),(0:Int),(0:Int),(0:Int))=(fun (k:Nat) (s:iB)=>((k:Int),s.cd,s.ij,s.iD)) 0 ⟨0,0,0⟩ from rfl,
        mJ t (fun (k:Nat) (s:iB)=>((k:Int),s.cd,s.ij,s.iD)) (fun k s r=>if pe t k r then .inl (if r.live then iZ s r.iU else s) else .inr (.inr false)) (fun s=>.inl ((t.length:Int),s.cd,s.ij,s.iD)) (fun _ _=>True) ?_ ?_ (Nat.lt_of_lt_of_le hB hN) trivial]
      · simp only [Option.bind_some,qn]
        have key:∀ (l:List iy) (k:Nat) (s:iB),Sum.elim (fun (o48:Int×Int×Int×Int)=>some (je (iB.mk o48.2.1 o48.2.2.1 o48.2.2.2))) (fun r53=>some r53) (lD (fun k s r=>if pe t k r then .inl (if r.live then iZ s r.iU else s) else .inr (.inr false)) (fun s=>.inl ((t.length:Int),s.cd,s.ij,s.iD)) k s l)=some (allI (pe t) k l&&je (jA s l)):=by
          intro l
          induction l with
          | nil=>intro k s;rfl
          | cons r l ih =>
            intro k s
            unfold lD allI
            cases hp:pe t k r
            · rfl
            · simpa [jA] using ih (k+1) (if r.live then iZ s r.iU else s)
        exact key t 0 _
      · intro k s r hy hk _
        refine ⟨?_,fun _ _=>trivial⟩
        simp only [jt hk,cond_true,iT,hy,Option.bind_some,qn,DD hN hl,sD,kO,jx (Nat.lt_trans hk hB)]
        unfold pe
        cases hlv:r.live
        · show (bif !decide (r=tS) then _ else _)=_
          cases decide (r=tS) <;> rfl
        · cases je r.iU <;> cases leads t 5 (k:Int) <;> rfl
      · intro s _
        simp only [jr,cond_false]
    · rfl
  · rfl
def p1 (t:List iy) (k:Nat) (r:iy):Bool:=!((!r.live&&!decide (r=tS)) || !je r.iU)&&!(decide ((k:Int) > 0)&&(r.live&&(!iG r.parent 0 4 || (r.parent==(k:Int) || !(nth t r.parent).live))))
def p2 (t:List iy) (k:Nat) (r:iy):Bool:=!(r.live&&(jK t 5 (k:Int) != 0))
def Good (t:List iy):Prop:=∀ i:Int,0<i→i≤4→(nth t i).live=true→0≤up t i∧up t i≤4∧up t i ≠ i∧(nth t (up t i)).live=true
theorem Cj {t:List iy} (hl:t.length=5) (h:allI (p1 t) 0 t=true):Good t:=by
  intro i h0 h4 hlv
  rw [nJ] at h
  have hz:t[i.toNat]?=some (nth t i):=by
    have:=jj (l:=t) (i:=i) (by omega) (by omega)
    unfold idx at this
    rwa [if_pos (by omega)] at this
  have:=h _ _ hz
  have e:((0+i.toNat:Nat):Int)=i:=by omega
  unfold p1 at this
  rw [e] at this
  unfold up
  simp [hlv,iG] at this
  rcases this.2 with q | q
  · omega
  · exact ⟨q.1.1,q.1.2,q.2.1,q.2.2⟩
theorem zh {t:List iy} (hg:Good t):∀ (n:Nat) (a:Int),0≤a→a≤4→(nth t a).live=true→0≤jK t n a∧jK t n a≤4∧(nth t (jK t n a)).live=true
  | 0,a,h0,h4,hlv=>⟨h0,h4,hlv⟩
  | n+1,a,h0,h4,hlv=>by
    unfold jK
    by_cases ha:a > 0
    · rw [if_pos ha]
      obtain ⟨g1,g2,_,g4⟩:=hg a ha h4 hlv
      exact zh hg n _ g1 g2 g4
    · rw [if_neg ha];exact ⟨h0,h4,hlv⟩
theorem s7 (t:List iy):∀ (m n:Nat) (a:Int),jK t (m+n) a=jK t n (jK t m a)
  | 0,n,a=>by simp [jK]
  | m+1,n,a=>by
    rw [show m+1+n=(m+n)+1 by omega]
    show (if a > 0 then jK t (m+n) (up t a) else a)=jK t n (if a > 0 then jK t m (up t a) else a)
    by_cases ha:a > 0
    · rw [if_pos ha,if_pos ha,s7 t m n]
    · rw [if_neg ha,if_neg ha]
      cases n <;> simp [jK,ha]
theorem yp (t:List iy) (n:Nat):jK t n 0=0:=by cases n <;> simp [jK]
theorem uv {t:List iy} (hg:Good t):∀ (n:Nat) (a:Int),0≤a→a≤4→(nth t a).live=true→leads t (n+1) a=(jK t n a==0)
  | 0,a,h0,h4,hlv=>by simp [leads,jK]
  | n+1,a,h0,h4,hlv=>by
    rw [show leads t (n+1+1) a=((a==0) || (jD t a&&leads t (n+1) (up t a))) from rfl]
    unfold jK
    by_cases ha:a=0
    · subst ha;simp
    · have hp:a > 0:=by omega
      obtain ⟨g1,g2,_,g4⟩:=hg a hp h4 hlv
      rw [if_pos hp,uv hg n _ g1 g2 g4]
      have:jD t a=true:=by simp [jD,jv,hlv];omega
      have h0':(a==0)=false:=by simpa using ha
      rw [this,h0'];rfl
theorem ES {t:List iy} (hg:Good t) {a:Int} (h0:0≤a) (h4:a≤4) (hlv:(nth t a).live=true) (h:jK t 5 a=0):jK t 4 a=0:=by
  have key:∀ (i j:Nat),i+j≤5→jK t i a=jK t (i+j) a→jK t (5 - j) a=0:=by
    intro i j hij e
    have h1:jK t (5 - j) a=jK t (5 - j - i) (jK t i a):=by rw [← s7];congr 1;omega
    have h2:jK t 5 a=jK t (5 - j - i) (jK t (i+j) a):=by rw [← s7];congr 1;omega
    rw [h1,e, ← h2,h]
  have mono:∀ (i j:Nat),jK t i a=0→jK t (i+j) a=0:=by
    intro i j e
    rw [s7,e,yp]
  rcases Decidable.em (jK t 4 a=0) with q | q
  · exact q
  exfalso
  have nz:∀ i,i≤4→jK t i a ≠ 0:=fun i hi e=>q (by have:=mono i (4 - i) e;rwa [show i+(4 - i)=4 by omega] at this)
  have w8:∀ i,i≤4→1≤jK t i a∧jK t i a≤4:=fun i hi=>by
    obtain ⟨r1,r2,_⟩:=zh hg i a h0 h4 hlv
    have:=nz i hi
    omega
  have ne:∀ (i j:Nat),0<j→i+j≤4→jK t i a ≠ jK t (i+j) a:=fun i j hj hij e=>nz (5 - j) (by omega) (key i j (by omega) e)
  have r0:=w8 0 (by omega)
  have r1:=w8 1 (by omega)
  have r2:=w8 2 (by omega)
  have r3:=w8 3 (by omega)
  have r4:=w8 4 (by omega)
  have n01:=ne 0 1 (by omega) (by omega)
  have n02:=ne 0 2 (by omega) (by omega)
  have n03:=ne 0 3 (by omega) (by omega)
  have n04:=ne 0 4 (by omega) (by omega)
  have n12:=ne 1 1 (by omega) (by omega)
  have n13:=ne 1 2 (by omega) (by omega)
  have n14:=ne 1 3 (by omega) (by omega)
  have n23:=ne 2 1 (by omega) (by omega)
  have n24:=ne 2 2 (by omega) (by omega)
  have n34:=ne 3 1 (by omega) (by omega)
  simp only [Nat.zero_add,Nat.reduceAdd] at *
  generalize jK t 0 a=c0 at *
  generalize jK t 1 a=c1 at *
  generalize jK t 2 a=c2 at *
  generalize jK t 3 a=c3 at *
  generalize jK t 4 a=c4 at *
  clear key mono nz w8 ne
  omega
theorem xk {t:List iy} {a:Int} (ha:a ≠ 0) (hu:up t a=a):∀ n,leads t n a=false
  | 0=>rfl
  | n+1=>by
    unfold leads
    rw [hu,xk ha hu n]
    simp [ha]
theorem DQ {t:List iy} (hl:t.length=5) (h0:(nth t 0).live=true):(allI (p1 t) 0 t&&allI (p2 t) 0 t)=allI (pe t) 0 t:=by
  have hget:∀ (i:Nat) (r:iy),t[i]?=some r→(i:Int)≤4∧nth t (i:Int)=r:=fun i r h=>⟨by have:=ju h;omega,Av h⟩
  rw [Bool.eq_iff_iff,Bool.and_eq_true]
  constructor
  · rintro ⟨h1,h2⟩
    have hg:=Cj hl h1
    rw [nJ] at h1 h2 ⊢
    intro i r hr
    obtain ⟨i4,hn⟩:=hget i r hr
    have q1:=h1 i r hr
    have q2:=h2 i r hr
    simp only [Nat.zero_add] at q1 q2 ⊢
    unfold p1 at q1
    unfold p2 at q2
    unfold pe
    cases hlv:r.live
    · simp [hlv] at q1
      simp [q1.1]
    · simp [hlv] at q1 q2
      have hlv':(nth t (i:Int)).live=true:=by rw [hn];exact hlv
      have:=ES hg (by omega) i4 hlv' q2
      simp only [if_true,Bool.and_eq_true]
      refine ⟨q1.1,?_⟩
      rw [uv hg 4 _ (by omega) i4 hlv',this];rfl
  · intro h
    rw [nJ] at h
    have hp:∀ (i:Int),0≤i→i≤4→(nth t i).live=true→je (nth t i).iU=true∧leads t 5 i=true:=by
      intro i hi hi4 hlv
      have hz:t[i.toNat]?=some (nth t i):=by
        have:=jj (l:=t) (i:=i) (by omega) (by omega)
        unfold idx at this
        rwa [if_pos (by omega)] at this
      have:=h _ _ hz
      unfold pe at this
      rw [if_pos hlv] at this
      have e:((0+i.toNat:Nat):Int)=i:=by omega
      rw [e] at this
      simpa using this
    have hg:Good t:=by
      intro i hi hi4 hlv
      obtain ⟨_,q⟩:=hp i (by omega) hi4 hlv
      have hne:up t i ≠ i:=fun e=>by rw [xk (by omega) e] at q;cases q
      have hi0:(i==0)=false:=by simp;omega
      rw [show leads t 5 i=((i==0) || (jD t i&&leads t 4 (up t i))) from rfl,hi0] at q
      simp only [Bool.false_or,Bool.and_eq_true] at q
      rw [show leads t 4 (up t i)=((up t i==0) || (jD t (up t i)&&leads t 3 (up t (up t i)))) from rfl] at q
      rcases Decidable.em (up t i=0) with e | e
      · rw [e];exact ⟨by omega,by omega,by omega,h0⟩
      · have e':(up t i==0)=false:=by simpa using e
        rw [e'] at q
        simp only [Bool.false_or,Bool.and_eq_true] at q
        have:=q.2.1
        simp only [jD,Bool.and_eq_true,jv] at this
        exact ⟨this.1.1,this.1.2,hne,this.2⟩
    rw [nJ,nJ]
    refine ⟨fun i r hr=>?_,fun i r hr=>?_⟩
    · obtain ⟨i4,hn⟩:=hget i r hr
      have q:=h i r hr
      simp only [Nat.zero_add] at q ⊢
      unfold p1
      unfold pe at q
      cases hlv:r.live
      · simp [hlv] at q
        subst q
        simp;decide
      · simp [hlv] at q
        simp [q.1]
        by_cases hi:i=0
        · exact .inl hi
        · have:=hg (i:Int) (by omega) i4 (by rw [hn];exact hlv)
          unfold up at this
          rw [hn] at this
          exact .inr ⟨jv.2 ⟨this.1,this.2.1⟩,this.2.2.1,this.2.2.2⟩
    · obtain ⟨i4,hn⟩:=hget i r hr
      simp only [Nat.zero_add]
      unfold p2
      cases hlv:r.live
      · rfl
      · have hlv':(nth t (i:Int)).live=true:=by rw [hn];exact hlv
        obtain ⟨_,q⟩:=hp (i:Int) (by omega) i4 hlv'
        rw [uv hg 4 _ (by omega) i4 hlv'] at q
        have q:jK t 4 (i:Int)=0:=by simpa using q
        have:jK t 5 (i:Int)=0:=by rw [show 5=4+1 from rfl,s7,q,yp]
        simp [this]
theorem Cr {N:Nat} (hN:im≤N) {t:List iy} (hB:t.length<im):rv N t=some (jA ⟨0,0,0⟩ t):=by
  unfold rv jA
  rw [show ((0:Int),(0:Int),(0:Int),(0:Int))=(fun (k:Nat) (s:iB)=>((k:Int),s.cd,s.ij,s.iD)) 0 ⟨0,0,0⟩ from rfl,
    lB t (fun (k:Nat) (s:iB)=>((k:Int),s.cd,s.ij,s.iD)) (fun _ s r=>if r.live then iZ s r.iU else s) (fun s=>((t.length:Int),s.cd,s.ij,s.iD)) (fun _ _=>True) ?_ ?_ (Nat.lt_of_lt_of_le hB hN) trivial,nE]
  · rfl
  · intro k s r hy hk _
    refine ⟨?_,trivial⟩
    simp only [jt hk,cond_true,iT,hy,Option.bind_some,jx (Nat.lt_trans hk hB)]
    cases r.live <;> rfl
  · intro s _
    simp only [jr,cond_false]
theorem Dz {N:Nat} (hN:im≤N) {t:List iy} (hl:t.length=5) (hg:Good t) {k:Nat} {r:iy} (hr:t[k]?=some r) :
    ∃ n,iter (fun (s72:Int×Int)=>((bif (decide (s72.2<5)) then ((idx t (k:Int)).bind fun y77=>bif y77.live then (some (decide (s72.1 > 0))) else (some false)) else (some false):Option Bool).bind fun j74=>bif j74 then ((idx t s72.1).bind fun y89=>some (.inl (y89.parent,IntKind.i64.wrap (s72.2+1)))) else (some (.inr (s72.1,s72.2))):Option ((Int×Int)⊕(Int×Int)))) N ((k:Int),0)=some (if r.live then jK t 5 (k:Int) else (k:Int),n):=by
  have hk:=ju hr
  rw [show (((k:Int),0):Int×Int)=(fun (n:Nat) (a:Int)=>(a,(n:Int))) 0 (k:Int) from rfl,
    mJ (List.replicate 5 ()) (fun (n:Nat) (a:Int)=>(a,(n:Int))) (fun n a _=>if r.live&&decide (a > 0) then .inl (up t a) else .inr (a,(n:Int))) (fun a=>(a,5)) (fun _ a=>r.live=true→0≤a∧a≤4∧(nth t a).live=true) ?_ ?_ (G7 (k:=0) hN (by decide)) (fun h=>⟨by omega,by omega,by rw [Av hr];exact h⟩)]
  · have key:∀ (n j:Nat) (a:Int),(lD (ρ:=Int×Int) (fun (n:Nat) a (_:Unit)=>if r.live&&decide (a > 0) then .inl (up t a) else .inr (a,(n:Int))) (fun a=>(a,5)) j a (List.replicate n ())).1=if r.live then jK t n a else a:=by
      intro n
      induction n with
      | zero=>intro j a;simp [lD,jK]
      | succ n ih =>
        intro j a
        rw [List.replicate_succ]
        unfold lD jK
        cases hlv:r.live
        · rfl
        · have ih:=ih (j+1) (up t a)
          rw [hlv] at ih
          by_cases ha:a > 0
          · simpa [ha] using ih
          · simp [ha]
    have:=key 5 0 (k:Int)
    exact ⟨_,congrArg some (Prod.ext this rfl)⟩
  · intro n a y hy hn hI
    obtain ⟨h5,hd⟩:=HV hn
    simp only [hd,cond_true,iT,hr,Option.bind_some]
    cases hlv:r.live
    · exact ⟨rfl,fun t' h=>by simp at h⟩
    · obtain ⟨i1,i2,i3⟩:=hI hlv
      by_cases ha:a > 0
      · have hd2:decide (a > 0)=true:=by simpa using ha
        simp only [cond_true,hd2,Option.bind_some,jj (l:=t) (i:=a) i1 (by omega),jx (show n<im from Nat.lt_trans h5 (by decide)),Bool.and_self,if_true]
        refine ⟨rfl,fun t' h _=>?_⟩
        cases h
        obtain ⟨g1,g2,_,g4⟩:=hg a ha i2 i3
        exact ⟨g1,g2,g4⟩
      · have hd2:decide (a > 0)=false:=by simpa using ha
        simp only [cond_true,hd2,Option.bind_some,cond_false]
        exact ⟨rfl,fun t' h=>by simp at h⟩
  · intro a _
    rfl
theorem xv {N:Nat} (hN:im≤N) {t:List iy}:om N t=some (ki t):=by
  unfold om ki
  cases h5:((t.length:Int) != 5)
  · have hl:t.length=5:=va (n:=5) h5
    have hB:t.length<im:=by rw [hl];decide
    rw [jj (l:=t) (i:=0) (by omega) (by omega)]
    simp only [cond_false,Option.bind_some,kO,Bool.not_false,Bool.true_and]
    cases h1:(nth t 0).live
    · rfl
    cases h2:((nth t 0).parent != (-1))
    · simp only [Bool.not_true,Bool.or_self,cond_false,Bool.true_and,Bool.not_false]
      rw [ke t (p1 t) (.inl (t.length:Int)) (.inr false) (Nat.lt_of_lt_of_le hB hN), ← DQ hl h1]
      · simp only [Option.bind_some]
        cases hp:allI (p1 t) 0 t
        · rfl
        · have hg:=Cj hl hp
          simp only [if_true,Sum.elim_inl,Bool.true_and]
          rw [ke t (p2 t) (.inl (t.length:Int)) (.inr false) (Nat.lt_of_lt_of_le hB hN)]
          · simp only [Option.bind_some,Cr hN hB,sK]
            cases allI (p2 t) 0 t <;> rfl
          · intro k r hy hk
            obtain ⟨n,hn⟩:=Dz hN hl hg hy
            simp only [jt hk,cond_true]
            rw [hn]
            simp only [iT,hy,Option.bind_some,jx (Nat.lt_trans hk hB)]
            unfold p2
            cases hlv:r.live
            · rfl
            · simp only [cond_true,Option.bind_some,if_true,Bool.true_and]
              cases (jK t 5 (k:Int) != 0) <;> rfl
          · simp only [jr,cond_false]
      · intro k r hy hk
        simp only [jt hk,cond_true,iT,hy,Option.bind_some,sK,tC,kO,jx (Nat.lt_trans hk hB)]
        unfold p1
        rw [show iy.mk false 0 (iB.mk 0 0 0)=tS from rfl]
        cases hin:iG r.parent 0 4
        · cases r.live <;> cases decide (r=tS) <;> cases je r.iU <;> cases decide ((k:Int) > 0) <;> rfl
        · rw [xH hin (by omega) (show (4:Int)<(t.length:Int) by omega)]
          simp only [Option.bind_some]
          cases r.live <;> cases decide (r=tS) <;> cases je r.iU <;> cases decide ((k:Int) > 0) <;> cases (r.parent==(k:Int)) <;> cases (nth t r.parent).live <;> rfl
      · simp only [jr,cond_false]
    · rfl
  · rfl
end Go.Kx
