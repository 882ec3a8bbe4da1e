/- Plain laws: ranges, amounts, labels, owned categories, what is started. No program in sight. -/
import Derived.Test.YtikeaiogpfjdnaaGreatHa
namespace Go.Kx
open Go
set_option linter.unusedVariables false
set_option linter.unusedSimpArgs false
set_option maxRecDepth 10000
theorem tD (p q:Bool):(bif p then some q else some false)=some (p&&q):=by cases p <;> rfl
theorem sG (p q:Bool):(bif p then some true else some q)=some (p || q):=by cases p <;> rfl
def qg (a b c:Int):Bool:=decide (b≤a)&&decide (a≤c)
theorem rL {a b c:Int}:qg a b c=true ↔ b≤a∧a≤c:=by simp [qg]
theorem uk (N:Nat) (a b c:Int):qD N a b c=some (qg a b c):=tD _ _
theorem ud (N:Nat) (a b c:Int):qE N a b c=some (qg a b c):=tD _ _
def CT (n:Int):Bool:=qg n 0 1000000
theorem O7 (N:Nat) (a:Int):w8 N a=some (CT a):=by unfold w8;rw [uk];rfl
theorem Et (N:Nat) (a:Int):tR N a=some (CT a):=by unfold tR;rw [ud];rfl
def qX (a:qa):Bool:=CT a.bh&&(CT a.pU&&CT a.qc)
theorem yF (N:Nat) (a:qa):sr N a=some (qX a):=by unfold sr;simp only [O7,Option.bind_some,tD];rfl
theorem xH (N:Nat) (a:qa):sf N a=some (qX a):=by unfold sf;simp only [Et,Option.bind_some,tD];rfl
def qG (a b:qa):qa:=qa.mk (IntKind.i64.wrap (a.bh+b.bh)) (IntKind.i64.wrap (a.pU+b.pU)) (IntKind.i64.wrap (a.qc+b.qc))
def uO (a b:qa):qa×Bool:=if qX a&&qX b&&qX (qG a b) then (qG a b,true) else (a,false)
theorem B6 (N:Nat) (a b:qa):uv N a b=some (uO a b):=by
  unfold uv uO
  simp only [yF,Option.bind_some,sG]
  show (bif (!qX a || !qX b) then some (a,false) else (bif !qX (qG a b) then some (a,false) else some (qG a b,true)))=_
  cases qX a <;> cases qX b <;> cases qX (qG a b) <;> rfl
theorem zK (N:Nat) (a b:qa):tu N a b=some (qG a b):=rfl
theorem K9 (N:Nat) (a b:qa):zj N a b=some (uO a b):=by
  unfold zj uO
  simp only [xH,zK,Option.bind_some,sG]
  cases qX a <;> cases qX b <;> cases qX (qG a b) <;> rfl
def tE (l:rm):Bool:=((l.levels.length:Int)==4)&&l.levels.all fun y=>qg y 0 3
theorem zW {l:rm}:tE l=true ↔ l.levels.length=4∧∀ y,y ∈ l.levels→0≤y∧y≤3:=by
  simp only [tE,Bool.and_eq_true,List.all_eq_true,rL,beq_iff_eq]
  constructor
  · rintro ⟨h1,h2⟩;exact ⟨by omega,h2⟩
  · rintro ⟨h1,h2⟩;exact ⟨by omega,h2⟩
theorem CD {N:Nat} (hN:pR≤N) {l:rm} (hb:l.levels.length<pR):vr N l=some (tE l):=by
  unfold vr tE
  rw [rT l.levels (fun _ y=>qg y 0 3) (.inl (l.levels.length:Int)) (.inr false) (Nat.lt_of_lt_of_le hb hN),si]
  · cases h:((l.levels.length:Int)==4)
    · have:((l.levels.length:Int) != 4)=true:=by simp [bne,h]
      simp [this]
    · have:((l.levels.length:Int) != 4)=false:=by simp [bne,h]
      simp only [this,cond_false,Option.bind_some,Bool.true_and]
      cases l.levels.all fun y=>qg y 0 3 <;> rfl
  · intro k y hy hk
    simp only [qS hk,cond_true,qx,hy,Option.bind_some,uk,qV (Nat.lt_trans hk hb)]
    cases qg y 0 3 <;> rfl
  · simp only [qR,cond_false]
theorem C0 {N:Nat} (hN:pR≤N) {l:rm} (hb:l.levels.length<pR):vt N l=some (tE l):=by
  unfold vt tE
  rw [rT l.levels (fun _ y=>qg y 0 3) (.inl (l.levels.length:Int)) (.inr false) (Nat.lt_of_lt_of_le hb hN),si]
  · simp only [Option.bind_some]
    cases l.levels.all fun y=>qg y 0 3 <;> simp
  · intro k y hy hk
    simp only [qS hk,cond_true,qx,hy,Option.bind_some,ud,qV (Nat.lt_trans hk hb)]
    cases qg y 0 3 <;> rfl
  · simp only [qR,cond_false]
def B9 (l:List Int) (k:Nat) (y:Int):Bool:=qg y 0 3&&match k with
  | 0=>true
  | j+1=>!decide (y≤(l[j]?).getD 0)
def z7 (l:List Int):Bool:=allI (B9 l) 0 l
theorem IL {l:List Int} {k:Nat} {y:Int} (hy:l[k]?=some y) (hk:k<l.length) (hb:l.length<pR) {N:Nat} :
    (bif (!(qg y 0 3)) then (some true) else (bif (decide ((k:Int) > 0)) then ((idx l (IntKind.i64.wrap ((k:Int) - 1))).bind fun y18=>some (decide (y≤y18))) else (some false)):Option Bool)=some (!B9 l k y):=by
  have hB:l.length<16777216:=hb
  unfold B9
  cases k with
  | zero =>
    have:decide (((0:Nat):Int) > 0)=false:=by decide
    simp only [this,cond_false]
    cases qg y 0 3 <;> rfl
  | succ j =>
    have:decide (((j+1:Nat):Int) > 0)=true:=by simp
    have e:IntKind.i64.wrap (((j+1:Nat):Int) - 1)=(j:Int):=by rw [rN (by omega) (by omega)];omega
    have hz:l[j]?=some (l[j]'(by omega)):=List.getElem?_eq_getElem _
    simp only [this,cond_true,e,qx,hz,Option.bind_some,Option.getD_some]
    cases qg y 0 3 <;> simp
theorem Iv {N:Nat} (hN:pR≤N) {l:List Int} (hb:l.length<pR):yY N l=some (z7 l):=by
  unfold yY z7
  rw [rT l (B9 l) (.inl (l.length:Int)) (.inr false) (Nat.lt_of_lt_of_le hb hN)]
  · simp only [Option.bind_some]
    cases allI (B9 l) 0 l <;> rfl
  · intro k y hy hk
    simp only [qS hk,cond_true,qx,hy,Option.bind_some,uk,qV (Nat.lt_trans hk hb)]
    rw [IL hy hk hb (N:=N)]
    cases B9 l k y <;> rfl
  · simp only [qR,cond_false]
theorem Im {N:Nat} (hN:pR≤N) {l:List Int} (hb:l.length<pR):y6 N l=some (z7 l):=by
  unfold y6 z7
  rw [rT l (B9 l) (.inl (l.length:Int)) (.inr false) (Nat.lt_of_lt_of_le hb hN)]
  · simp only [Option.bind_some]
    cases allI (B9 l) 0 l <;> rfl
  · intro k y hy hk
    simp only [qS hk,cond_true,qx,hy,Option.bind_some,ud,qV (Nat.lt_trans hk hb),ge_iff_le]
    rw [IL hy hk hb (N:=N)]
    cases B9 l k y <;> rfl
  · simp only [qR,cond_false]
theorem Mg {N:Nat} (hN:pR≤N) {l:List Int} {x:Int} (hb:l.length<pR):∃ r,wH N l x=some r∧decide (r ≥ 0)=l.contains x:=by
  unfold wH
  have hB:l.length<16777216:=hb
  rw [show (0:Int)=(fun (k:Nat) (_:Unit)=>(k:Int)) 0 () from rfl,uC l (fun k (_:Unit)=>(k:Int)) (fun k _ y=>if x==y then .inr (.inr (k:Int)) else .inl ()) (fun _=>.inl (l.length:Int)) (fun _ _=>True) ?_ ?_ (Nat.lt_of_lt_of_le hb hN) trivial]
  · simp only [Option.bind_some]
    have key:∀ (m:List Int) (k:Nat), ∃ r,Sum.elim (fun _=>some (-1)) (fun r16=>some r16) (tg (ρ:=Int⊕Int) (fun (k:Nat) (_:Unit) y=>if x==y then .inr (.inr (k:Int)) else .inl ()) (fun _=>.inl (l.length:Int)) k () m)=some r∧decide (r ≥ 0)=m.contains x:=by
      intro m
      induction m with
      | nil=>intro k;exact ⟨-1,rfl,rfl⟩
      | cons y m ih =>
        intro k
        cases hxy:(x==y)
        · obtain ⟨r,h1,h2⟩:=ih (k+1)
          have hne:x ≠ y:=by simpa using hxy
          refine ⟨r,by simpa [tg,hxy] using h1,by rw [h2];simp [List.contains_cons,hne]⟩
        · have he:x=y:=by simpa using hxy
          exact ⟨k,by simp [tg,hxy],by simp [List.contains_cons,he]⟩
    exact key l 0
  · intro k _ y hy hk _
    simp only [qS hk,cond_true,qx,hy,Option.bind_some,qV (Nat.lt_trans hk hb)]
    cases (x==y) <;> simp
  · intro _ _
    simp only [qR,cond_false]
theorem zs {N:Nat} (hN:pR≤N) {l:List Int} {x:Int} (hb:l.length<pR):sh N l x=some (l.contains x):=by
  unfold sh
  obtain ⟨r,h1,h2⟩:=Mg hN hb (x:=x)
  rw [h1,Option.bind_some,h2]
def vD (b:List Int):Nat→List Int→List Int
  | _,[]=>[]
  | k,y::l=>if decide (y > (b[k]?).getD 0) then (k:Int)::vD b (k+1) l else vD b (k+1) l
theorem DV (b:List Int):∀ (l:List Int) (k:Nat),(vD b k l).length≤l.length
  | [],_=>Nat.le_refl _
  | y::l,k=>by
    unfold vD
    have:=DV b l (k+1)
    split <;> simp <;> omega
theorem Dr (b:List Int):∀ (l:List Int) (k:Nat) (acc:List Int),foldI (fun k (acc:List Int) y=>if decide (y > (b[k]?).getD 0) then acc++[(k:Int)] else acc) k acc l=acc++vD b k l
  | [],_,acc=>by simp [foldI,vD]
  | y::l,k,acc=>by
    unfold foldI vD
    rw [Dr b l]
    cases decide (y > (b[k]?).getD 0) <;> simp
theorem MI {N:Nat} (hN:pR≤N) {a b:rm} (ha:a.levels.length<pR) (hab:a.levels.length≤b.levels.length):Ah N a b=some (vD b.levels 0 a.levels):=by
  unfold Ah
  rw [show (([]:List Int),(0:Int))=(fun (k:Nat) (t:List Int)=>(t,(k:Int))) 0 [] from rfl,
    tn a.levels (fun k (t:List Int)=>(t,(k:Int))) (fun k acc y=>if decide (y > (b.levels[k]?).getD 0) then acc++[(k:Int)] else acc) (fun t=>(t,(a.levels.length:Int))) (fun k t=>t.length≤k) ?_ ?_ (Nat.lt_of_lt_of_le ha hN) (by simp),Dr]
  · simp
  · intro k t y hy hk hI
    have hz:b.levels[k]?=some (b.levels[k]'(by omega)):=List.getElem?_eq_getElem _
    simp only [qS hk,cond_true,qx,hy,hz,Option.bind_some,Option.getD_some,qV (Nat.lt_trans hk ha)]
    cases decide (y > b.levels[k]'(by omega))
    · exact ⟨rfl,by simp;omega⟩
    · have:app t [(k:Int)]=some (t++[(k:Int)]):=by unfold app;rw [if_pos (by simp;omega)]
      simp only [this,Option.bind_some,cond_true,if_true]
      exact ⟨trivial,by simp;omega⟩
  · intro t _
    simp only [qR,cond_false]
def xx (own:List Int) (a b:rm):Bool:=z7 own&&(tE a&&(tE b&&allI (fun k y=>!decide (y > (b.levels[k]?).getD 0) || own.contains (k:Int)) 0 a.levels))
theorem E3 (b:List Int) (q:Int→Bool):∀ (l:List Int) (k:Nat),(vD b k l).all q=allI (fun k y=>!decide (y > (b[k]?).getD 0) || q (k:Int)) k l
  | [],_=>rfl
  | y::l,k=>by
    unfold vD allI
    rw [← E3 b q l (k+1)]
    cases decide (y > (b[k]?).getD 0) <;> simp
theorem JI {N:Nat} (hN:pR≤N) {own:List Int} {a b:rm} (ho:own.length<pR) (ha:a.levels.length<pR) (hb:b.levels.length<pR):xt N own a b=some (xx own a b):=by
  unfold xt xx
  simp only [Im hN ho,C0 hN ha,C0 hN hb,Option.bind_some,sG]
  cases h1:z7 own
  · rfl
  cases h2:tE a
  · rfl
  cases h3:tE b
  · rfl
  have l2:=(zW.1 h2).1
  have l3:=(zW.1 h3).1
  have hl:=DV b.levels a.levels 0
  have hB:(vD b.levels 0 a.levels).length<pR:=Nat.lt_of_le_of_lt hl ha
  simp only [Bool.not_true,Bool.or_self,cond_false,MI hN ha (b:=b) (by omega),Option.bind_some,Bool.true_and]
  rw [rT (vD b.levels 0 a.levels) (fun _ y=>own.contains y) (.inl ((vD b.levels 0 a.levels).length:Int)) (.inr false) (Nat.lt_of_lt_of_le hB hN),si,E3]
  · simp only [Option.bind_some]
    cases allI _ 0 a.levels <;> rfl
  · intro k y hy hk
    simp only [qS hk,cond_true,qx,hy,Option.bind_some,zs hN ho,qV (Nat.lt_trans hk hB)]
    cases own.contains y <;> rfl
  · simp only [qR,cond_false]
theorem Nc {α ρ:Type} {body:Int→Option (Int⊕ρ)} (x:List α) (h4:x.length=4) (p:Nat→α→Bool) (r r':ρ) {N:Nat} (hN:pR≤N)
    (hs:∀ (k:Nat) (y:α),x[k]?=some y→k<4→decide ((k:Int)<4)=true→body (k:Int)=some (if p k y then .inl ((k+1:Nat):Int) else .inr r')) (he:body 4=some (.inr r)):iter body N 0=some (if allI p 0 x then r else r') :=
  rT x p r r' (by have:16777216≤N:=hN;omega) (fun k y hy hk=>hs k y hy (by omega) (by simp;omega)) (by rw [h4];exact he)
end Go.Kx
/- Plain laws of what is told alike: labels, things, parts, worlds. No program in sight. -/
namespace Go.Kx
open Go
set_option linter.unusedVariables false
set_option linter.unusedSimpArgs false
set_option maxRecDepth 10000
theorem Di {N:Nat} (hN:pR≤N) {a b:List Int} (ha:a.length<pR):wF N a b=some (decide (a=b)):=EB a b (· != ·) (by intro y z;by_cases h:y=z <;> simp [h]) ha hN
theorem H8 {N:Nat} (hN:pR≤N) {a b:List qt} (ha:a.length<pR):yx N a b=some (decide (a=b)):=EB a b (fun y z=>!decide (y=z)) (fun _ _=>rfl) ha hN
theorem D3 {o:eg} (h:qd o<pR):o.pS.length<pR∧o.data.length<pR∧o.queue.length<pR:=by unfold qd at h;omega
theorem J9 {N:Nat} (hN:pR≤N) {a b:eg} (ha:qd a<pR):yr N a b=some (decide (a=b)):=by
  obtain ⟨h1,h2,h3⟩:=D3 ha
  unfold yr
  simp only [Di hN h1,Di hN h2,H8 hN h3,Option.bind_some,tD]
  congr 1
  rw [Bool.eq_iff_iff]
  cases a;cases b
  simp [eg.mk.injEq]
theorem sc {p:cd} (h:qm p<pR):p.label.levels.length<pR∧p.own.length<pR∧p.tree.length<pR∧qZ qd p.heap.ag<pR∧p.heap.gc.j8.length<pR∧p.pN.length<pR:=by
  unfold qm sO vg sZ at h;omega
end Go.Kx
/- Plain laws: copies are what they copy. No program in sight. -/
namespace Go.Kx
open Go
set_option linter.unusedVariables false
set_option linter.unusedSimpArgs false
set_option maxRecDepth 10000
theorem rO {α:Type} {l:List α} (h:l.length<pR):app ([]:List α) l=some l:=by
  unfold app;rw [if_pos (by simpa using h)];rfl
theorem zx {N:Nat} {l:List Int} (h:l.length<pR):tl N l=some l:=by unfold tl;rw [rO h];rfl
theorem HX {N:Nat} {l:rm} (h:l.levels.length<pR):wB N l=some l:=by unfold wB;rw [zx h];rfl
theorem we {N:Nat} {l:List pW} (h:l.length<pR):sS N l=some l:=by unfold sS;rw [rO h];rfl
theorem wY {N:Nat} {l:List pW} (h:l.length<pR):sW N l=some l:=by unfold sW;rw [rO h];rfl
theorem EY {N:Nat} {o:eg} (h:qd o<pR):wS N o=some o:=by
  obtain ⟨h1,h2,h3⟩:=D3 h
  unfold wS
  simp only [zx h1,zx h2,rO h3,Option.bind_some]
theorem II {N:Nat} {o:eg} (h:qd o<pR):y5 N o=some o:=by
  obtain ⟨h1,h2,h3⟩:=D3 h
  unfold y5
  simp only [rO h1,rO h2,rO h3,Option.bind_some]
theorem BI {N:Nat} (hN:pR≤N) {l:List eg} (hb:qZ qd l<pR):ug N l=some l:=by
  have hl:=rQ hb
  unfold ug
  rw [yS l (fun _ _=>true) (fun _ y=>y) hl hN,Bc (fun _=>true)]
  · simp
  · intro k t y hy hk ht
    simp only [qS hk,cond_true,qx,hy,Option.bind_some,EY (rp hb (List.mem_of_getElem? hy)),qV (Nat.lt_trans hk hl),uq ht (Nat.lt_of_le_of_lt hk hl)]
    rfl
  · intro t
    simp only [qR,cond_false]
theorem G9 {N:Nat} (hN:pR≤N) {l:List eg} (hb:qZ qd l<pR):v8 N l=some l:=by
  have hl:=rQ hb
  unfold v8
  rw [yS l (fun _ _=>true) (fun _ y=>y) hl hN,Bc (fun _=>true)]
  · simp
  · intro k t y hy hk ht
    simp only [qS hk,cond_true,qx,hy,Option.bind_some,II (rp hb (List.mem_of_getElem? hy)),qV (Nat.lt_trans hk hl),uq ht (Nat.lt_of_le_of_lt hk hl)]
    rfl
  · intro t
    simp only [qR,cond_false]
theorem Ct {N:Nat} (hN:pR≤N) {h:qe} (h1:qZ qd h.ag<pR) (h2:h.gc.j8.length<pR):uR N h=some h:=by
  unfold uR
  simp only [BI hN h1,zx h2,Option.bind_some]
theorem CY {N:Nat} (hN:pR≤N) {h:qe} (h1:qZ qd h.ag<pR) (h2:h.gc.j8.length<pR):vv N h=some h:=by
  unfold vv
  simp only [G9 hN h1,rO h2,Option.bind_some]
theorem Cv {N:Nat} (hN:pR≤N) {p:cd} (h:qm p<pR):sV N p=some p:=by
  obtain ⟨h1,h2,h3,h4,h5,h6⟩:=sc h
  unfold sV
  simp only [HX h1,zx h2,we h3,Ct hN h4 h5,rO h6,Option.bind_some]
theorem EU {N:Nat} (hN:pR≤N) {p:cd} (h:qm p<pR):wO N p=some p:=by
  obtain ⟨h1,h2,h3,h4,h5,h6⟩:=sc h
  unfold wO
  simp only [rO h1,rO h2,wY h3,CY hN h4 h5,rO h6,Option.bind_some]
theorem Dy {α:Type} {l:List α} {k:Nat} (h:k≤l.length):sub l 0 (k:Int)=some (l.take k):=by
  unfold sub
  rw [if_pos ⟨Int.le_refl _,by omega,by omega⟩]
  simp
theorem FE {α:Type} (f:α→Nat):∀ (l:List α) (k:Nat),pQ f (l.take k)≤pQ f l
  | [],k=>by simp
  | y::l,0=>Nat.zero_le _
  | y::l,k+1=>by
    have:=FE f l k
    simp only [List.take_succ_cons,pQ];omega
theorem KR {α:Type} (f:α→Nat) (l:List α) (k:Nat):qZ f (l.take k)≤qZ f l:=by
  have:=FE f l k
  unfold qZ
  simp only [List.length_take];omega
end Go.Kx
/- Plain laws: trees of reserves. No program in sight. -/
namespace Go.Kx
open Go
set_option linter.unusedVariables false
set_option linter.unusedSimpArgs false
set_option maxRecDepth 10000
def nth {α:Type} [pX α] (l:List α) (i:Int):α:=(l[i.toNat]?).getD pX.zero
theorem rl {α:Type} [pX α] {l:List α} {i:Int} (h0:0≤i) (h1:i<(l.length:Int)):idx l i=some (nth l i):=by
  have hz:l[i.toNat]?=some (l[i.toNat]'(by omega)):=List.getElem?_eq_getElem _
  unfold idx nth
  rw [if_pos h0,hz];rfl
theorem Eo {α:Type} [pX α] {l:List α} {i a b:Int} (h:qg i a b=true) (ha:0≤a) (hb:b<(l.length:Int)):idx l i=some (nth l i):=by
  rw [rL] at h
  exact rl (by omega) (by omega)
theorem Gt {α:Type} [pX α] {l:List α} {k:Nat} {y:α} (h:l[k]?=some y):nth l (k:Int)=y:=by simp [nth,h]
theorem zJ {α:Type} [pX α] {l:List α} {i:Int} (h0:0≤i) (h1:i<(l.length:Int)):nth l i ∈ l:=by
  have hz:l[i.toNat]?=some (l[i.toNat]'(by omega)):=List.getElem?_eq_getElem _
  unfold nth;rw [hz];exact List.getElem_mem _
theorem CM {α:Type} {l:List α} {n:Nat} (h:((l.length:Int) != (n:Int))=false):l.length=n:=by simp at h;omega
theorem Ao (N:Nat) (a:Int):sF N a=some (qg a 0 4):=by unfold sF;rw [ud];rfl
theorem AX (N:Nat) (a:Int):s6 N a=some (qg a 0 4):=by unfold s6;rw [uk];rfl
def ri (t:List pW) (i:Int):Bool:=qg i 0 4&&(nth t i).live
def up (t:List pW) (i:Int):Int:=(nth t i).parent
def leads (t:List pW):Nat→Int→Bool
  | 0,_=>false
  | n+1,i=>(i==0) || (ri t i&&leads t n (up t i))
def rF (t:List pW):Nat→Int→Int
  | 0,a=>a
  | n+1,a=>if a > 0 then rF t n (up t a) else a
theorem yD (N:Nat) {t:List pW} (h:t.length=5) (i:Int):tf N t i=some (ri t i):=by
  unfold tf ri
  rw [Ao,Option.bind_some]
  cases hi:qg i 0 4
  · rfl
  · simp only [cond_true,Eo hi (by omega) (show (4:Int)<(t.length:Int) by omega),Option.bind_some,Bool.true_and]
theorem O2 {k:Nat} (h:k<(List.replicate 5 ()).length):k<5∧decide ((k:Int)<5)=true:=by
  have h:k<5:=by simpa using h
  exact ⟨h,by simp;omega⟩
theorem NX {k n:Nat} {N:Nat} (hN:pR≤N) (hn:n<16777216):(List.replicate n ()).length<N:=by
  have:16777216≤N:=hN
  simp;omega
theorem KO {N:Nat} (hN:pR≤N) {t:List pW} (h:t.length=5) (i:Int):ye N t i=some (leads t 5 i):=by
  unfold ye
  rw [show ((i,0):Int×Int)=(fun (k:Nat) (a:Int)=>(a,(k:Int))) 0 i from rfl,
    uC (List.replicate 5 ()) (fun (k:Nat) (a:Int)=>(a,(k:Int))) (fun _ a _=>if a==0 then .inr (.inr true) else if ri t a then .inl (up t a) else .inr (.inr false)) (fun a=>.inl (a,5)) (fun _ _=>True) ?_ ?_ (NX (k:=0) hN (by decide)) trivial]
  · have key:∀ (n k:Nat) (a:Int),Sum.elim (fun _=>some false) (fun r20=>some r20) (tg (ρ:=(Int×Int)⊕Bool) (fun (_:Nat) a (_:Unit)=>if a==0 then .inr (.inr true) else if ri t a then .inl (up t a) else .inr (.inr false)) (fun a=>.inl (a,5)) k a (List.replicate n ()))=some (leads t n a):=by
      intro n
      induction n with
      | zero=>intro k a;rfl
      | succ n ih =>
        intro k a
        rw [List.replicate_succ]
        unfold tg leads
        cases h0:(a==0)
        · cases h1:ri t a
          · rfl
          · simpa using ih (k+1) (up t a)
        · rfl
    exact key 5 0 i
  · intro k a y hy hk _
    obtain ⟨h5,hd⟩:=O2 hk
    refine ⟨?_,fun _ _=>trivial⟩
    simp only [hd,cond_true,yD N h,Option.bind_some]
    cases h0:(a==0)
    · cases h1:ri t a
      · rfl
      · have hin:qg a 0 4=true:=by unfold ri at h1;simp at h1;exact h1.1
        simp only [Eo hin (by omega) (show (4:Int)<(t.length:Int) by omega),qV (show k<pR from Nat.lt_trans h5 (by decide)),Option.bind_some]
        rfl
    · rfl
  · intro a _
    rfl
def BA:pW:=pW.mk false 0 (qa.mk 0 0 0)
def wX (t:List pW) (k:Nat) (r:pW):Bool:=if r.live then qX r.qw&&leads t 5 (k:Int) else decide (r=BA)
def rk (s:qa) (t:List pW):qa:=t.foldl (fun s r=>if r.live then qG s r.qw else s) s
def r7 (t:List pW):Bool:=!((t.length:Int) != 5)&&((nth t 0).live&&(!((nth t 0).parent != (-1))&&(allI (wX t) 0 t&&qX (rk ⟨0,0,0⟩ t))))
theorem zR {N:Nat} (hN:pR≤N) {t:List pW}:tO N t=some (r7 t):=by
  unfold tO r7
  cases h5:((t.length:Int) != 5)
  · have hl:t.length=5:=CM (n:=5) h5
    have hB:t.length<pR:=by rw [hl];decide
    rw [rl (l:=t) (i:=0) (by omega) (by omega)]
    simp only [cond_false,Option.bind_some,sG,Bool.not_false,Bool.true_and]
    cases h1:(nth t 0).live
    · rfl
    cases h2:((nth t 0).parent != (-1))
    · simp only [Bool.not_true,Bool.or_self,cond_false,Bool.true_and,Bool.not_false]
      rw [show ((0:Int),(0:Int),(0:Int),(0:Int))=(fun (k:Nat) (s:qa)=>((k:Int),s.bh,s.pU,s.qc)) 0 ⟨0,0,0⟩ from rfl,
        uC t (fun (k:Nat) (s:qa)=>((k:Int),s.bh,s.pU,s.qc)) (fun k s r=>if wX t k r then .inl (if r.live then qG s r.qw else s) else .inr (.inr false)) (fun s=>.inl ((t.length:Int),s.bh,s.pU,s.qc)) (fun _ _=>True) ?_ ?_ (Nat.lt_of_lt_of_le hB hN) trivial]
      · simp only [Option.bind_some,xH]
        have key:∀ (l:List pW) (k:Nat) (s:qa),Sum.elim (fun (o48:Int×Int×Int×Int)=>some (qX (qa.mk o48.2.1 o48.2.2.1 o48.2.2.2))) (fun r53=>some r53) (tg (fun k s r=>if wX t k r then .inl (if r.live then qG s r.qw else s) else .inr (.inr false)) (fun s=>.inl ((t.length:Int),s.bh,s.pU,s.qc)) k s l)=some (allI (wX t) k l&&qX (rk s l)):=by
          intro l
          induction l with
          | nil=>intro k s;rfl
          | cons r l ih =>
            intro k s
            unfold tg allI
            cases hp:wX t k r
            · rfl
            · simpa [rk] using ih (k+1) (if r.live then qG s r.qw else s)
        exact key t 0 _
      · intro k s r hy hk _
        refine ⟨?_,fun _ _=>trivial⟩
        simp only [qS hk,cond_true,qx,hy,Option.bind_some,xH,KO hN hl,zK,sG,qV (Nat.lt_trans hk hB)]
        unfold wX
        cases hlv:r.live
        · show (bif !decide (r=BA) then _ else _)=_
          cases decide (r=BA) <;> rfl
        · cases qX r.qw <;> cases leads t 5 (k:Int) <;> rfl
      · intro s _
        simp only [qR,cond_false]
    · rfl
  · rfl
def p1 (t:List pW) (k:Nat) (r:pW):Bool:=!((!r.live&&!decide (r=BA)) || !qX r.qw)&&!(decide ((k:Int) > 0)&&(r.live&&(!qg r.parent 0 4 || (r.parent==(k:Int) || !(nth t r.parent).live))))
def p2 (t:List pW) (k:Nat) (r:pW):Bool:=!(r.live&&(rF t 5 (k:Int) != 0))
def Good (t:List pW):Prop:=∀ i:Int,0<i→i≤4→(nth t i).live=true→0≤up t i∧up t i≤4∧up t i ≠ i∧(nth t (up t i)).live=true
theorem Io {t:List pW} (hl:t.length=5) (h:allI (p1 t) 0 t=true):Good t:=by
  intro i h0 h4 hlv
  rw [v5] at h
  have hz:t[i.toNat]?=some (nth t i):=by
    have:=rl (l:=t) (i:=i) (by omega) (by omega)
    unfold idx at this
    rwa [if_pos (by omega)] at this
  have:=h _ _ hz
  have e:((0+i.toNat:Nat):Int)=i:=by omega
  unfold p1 at this
  rw [e] at this
  unfold up
  simp [hlv,qg] at this
  rcases this.2 with q | q
  · omega
  · exact ⟨q.1.1,q.1.2,q.2.1,q.2.2⟩
theorem Fw {t:List pW} (hg:Good t):∀ (n:Nat) (a:Int),0≤a→a≤4→(nth t a).live=true→0≤rF t n a∧rF t n a≤4∧(nth t (rF t n a)).live=true
  | 0,a,h0,h4,hlv=>⟨h0,h4,hlv⟩
  | n+1,a,h0,h4,hlv=>by
    unfold rF
    by_cases ha:a > 0
    · rw [if_pos ha]
      obtain ⟨g1,g2,_,g4⟩:=hg a ha h4 hlv
      exact Fw hg n _ g1 g2 g4
    · rw [if_neg ha];exact ⟨h0,h4,hlv⟩
theorem As (t:List pW):∀ (m n:Nat) (a:Int),rF t (m+n) a=rF t n (rF t m a)
  | 0,n,a=>by simp [rF]
  | m+1,n,a=>by
    rw [show m+1+n=(m+n)+1 by omega]
    show (if a > 0 then rF t (m+n) (up t a) else a)=rF t n (if a > 0 then rF t m (up t a) else a)
    by_cases ha:a > 0
    · rw [if_pos ha,if_pos ha,As t m n]
    · rw [if_neg ha,if_neg ha]
      cases n <;> simp [rF,ha]
theorem Ep (t:List pW) (n:Nat):rF t n 0=0:=by cases n <;> simp [rF]
theorem BK {t:List pW} (hg:Good t):∀ (n:Nat) (a:Int),0≤a→a≤4→(nth t a).live=true→leads t (n+1) a=(rF t n a==0)
  | 0,a,h0,h4,hlv=>by simp [leads,rF]
  | n+1,a,h0,h4,hlv=>by
    rw [show leads t (n+1+1) a=((a==0) || (ri t a&&leads t (n+1) (up t a))) from rfl]
    unfold rF
    by_cases ha:a=0
    · subst ha;simp
    · have hp:a > 0:=by omega
      obtain ⟨g1,g2,_,g4⟩:=hg a hp h4 hlv
      rw [if_pos hp,BK hg n _ g1 g2 g4]
      have:ri t a=true:=by simp [ri,rL,hlv];omega
      have h0':(a==0)=false:=by simpa using ha
      rw [this,h0'];rfl
theorem Lp {t:List pW} (hg:Good t) {a:Int} (h0:0≤a) (h4:a≤4) (hlv:(nth t a).live=true) (h:rF t 5 a=0):rF t 4 a=0:=by
  have key:∀ (i j:Nat),i+j≤5→rF t i a=rF t (i+j) a→rF t (5 - j) a=0:=by
    intro i j hij e
    have h1:rF t (5 - j) a=rF t (5 - j - i) (rF t i a):=by rw [← As];congr 1;omega
    have h2:rF t 5 a=rF t (5 - j - i) (rF t (i+j) a):=by rw [← As];congr 1;omega
    rw [h1,e, ← h2,h]
  have mono:∀ (i j:Nat),rF t i a=0→rF t (i+j) a=0:=by
    intro i j e
    rw [As,e,Ep]
  rcases Decidable.em (rF t 4 a=0) with q | q
  · exact q
  exfalso
  have nz:∀ i,i≤4→rF t i a ≠ 0:=fun i hi e=>q (by have:=mono i (4 - i) e;rwa [show i+(4 - i)=4 by omega] at this)
  have Dt:∀ i,i≤4→1≤rF t i a∧rF t i a≤4:=fun i hi=>by
    obtain ⟨r1,r2,_⟩:=Fw hg i a h0 h4 hlv
    have:=nz i hi
    omega
  have ne:∀ (i j:Nat),0<j→i+j≤4→rF t i a ≠ rF t (i+j) a:=fun i j hj hij e=>nz (5 - j) (by omega) (key i j (by omega) e)
  have r0:=Dt 0 (by omega)
  have r1:=Dt 1 (by omega)
  have r2:=Dt 2 (by omega)
  have r3:=Dt 3 (by omega)
  have r4:=Dt 4 (by omega)
  have n01:=ne 0 1 (by omega) (by omega)
  have n02:=ne 0 2 (by omega) (by omega)
  have n03:=ne 0 3 (by omega) (by omega)
  have n04:=ne 0 4 (by omega) (by omega)
  have n12:=ne 1 1 (by omega) (by omega)
  have n13:=ne 1 2 (by omega) (by omega)
  have n14:=ne 1 3 (by omega) (by omega)
  have n23:=ne 2 1 (by omega) (by omega)
  have n24:=ne 2 2 (by omega) (by omega)
  have n34:=ne 3 1 (by omega) (by omega)
  simp only [Nat.zero_add,Nat.reduceAdd] at *
  generalize rF t 0 a=c0 at *
  generalize rF t 1 a=c1 at *
  generalize rF t 2 a=c2 at *
  generalize rF t 3 a=c3 at *
  generalize rF t 4 a=c4 at *
  clear key mono nz Dt ne
  omega
theorem DH {t:List pW} {a:Int} (ha:a ≠ 0) (hu:up t a=a):∀ n,leads t n a=false
  | 0=>rfl
  | n+1=>by
    unfold leads
    rw [hu,DH ha hu n]
    simp [ha]
theorem KM {t:List pW} (hl:t.length=5) (h0:(nth t 0).live=true):(allI (p1 t) 0 t&&allI (p2 t) 0 t)=allI (wX t) 0 t:=by
  have hget:∀ (i:Nat) (r:pW),t[i]?=some r→(i:Int)≤4∧nth t (i:Int)=r:=fun i r h=>⟨by have:=rj h;omega,Gt h⟩
  rw [Bool.eq_iff_iff,Bool.and_eq_true]
  constructor
  · rintro ⟨h1,h2⟩
    have hg:=Io hl h1
    rw [v5] at h1 h2 ⊢
    intro i r hr
    obtain ⟨i4,hn⟩:=hget i r hr
    have q1:=h1 i r hr
    have q2:=h2 i r hr
    simp only [Nat.zero_add] at q1 q2 ⊢
    unfold p1 at q1
    unfold p2 at q2
    unfold wX
    cases hlv:r.live
    · simp [hlv] at q1
      simp [q1.1]
    · simp [hlv] at q1 q2
      have hlv':(nth t (i:Int)).live=true:=by rw [hn];exact hlv
      have:=Lp hg (by omega) i4 hlv' q2
      simp only [if_true,Bool.and_eq_true]
      refine ⟨q1.1,?_⟩
      rw [BK hg 4 _ (by omega) i4 hlv',this];rfl
  · intro h
    rw [v5] at h
    have hp:∀ (i:Int),0≤i→i≤4→(nth t i).live=true→qX (nth t i).qw=true∧leads t 5 i=true:=by
      intro i hi hi4 hlv
      have hz:t[i.toNat]?=some (nth t i):=by
        have:=rl (l:=t) (i:=i) (by omega) (by omega)
        unfold idx at this
        rwa [if_pos (by omega)] at this
      have:=h _ _ hz
      unfold wX at this
      rw [if_pos hlv] at this
      have e:((0+i.toNat:Nat):Int)=i:=by omega
      rw [e] at this
      simpa using this
    have hg:Good t:=by
      intro i hi hi4 hlv
      obtain ⟨_,q⟩:=hp i (by omega) hi4 hlv
      have hne:up t i ≠ i:=fun e=>by rw [DH (by omega) e] at q;cases q
      have hi0:(i==0)=false:=by simp;omega
      rw [show leads t 5 i=((i==0) || (ri t i&&leads t 4 (up t i))) from rfl,hi0] at q
      simp only [Bool.false_or,Bool.and_eq_true] at q
      rw [show leads t 4 (up t i)=((up t i==0) || (ri t (up t i)&&leads t 3 (up t (up t i)))) from rfl] at q
      rcases Decidable.em (up t i=0) with e | e
      · rw [e];exact ⟨by omega,by omega,by omega,h0⟩
      · have e':(up t i==0)=false:=by simpa using e
        rw [e'] at q
        simp only [Bool.false_or,Bool.and_eq_true] at q
        have:=q.2.1
        simp only [ri,Bool.and_eq_true,rL] at this
        exact ⟨this.1.1,this.1.2,hne,this.2⟩
    rw [v5,v5]
    refine ⟨fun i r hr=>?_,fun i r hr=>?_⟩
    · obtain ⟨i4,hn⟩:=hget i r hr
      have q:=h i r hr
      simp only [Nat.zero_add] at q ⊢
      unfold p1
      unfold wX at q
      cases hlv:r.live
      · simp [hlv] at q
        subst q
        simp;decide
      · simp [hlv] at q
        simp [q.1]
        by_cases hi:i=0
        · exact .inl hi
        · have:=hg (i:Int) (by omega) i4 (by rw [hn];exact hlv)
          unfold up at this
          rw [hn] at this
          exact .inr ⟨rL.2 ⟨this.1,this.2.1⟩,this.2.2.1,this.2.2.2⟩
    · obtain ⟨i4,hn⟩:=hget i r hr
      simp only [Nat.zero_add]
      unfold p2
      cases hlv:r.live
      · rfl
      · have hlv':(nth t (i:Int)).live=true:=by rw [hn];exact hlv
        obtain ⟨_,q⟩:=hp (i:Int) (by omega) i4 hlv'
        rw [BK hg 4 _ (by omega) i4 hlv'] at q
        have q:rF t 4 (i:Int)=0:=by simpa using q
        have:rF t 5 (i:Int)=0:=by rw [show 5=4+1 from rfl,As,q,Ep]
        simp [this]
theorem EA {N:Nat} (hN:pR≤N) {t:List pW} (hB:t.length<pR):xb N t=some (rk ⟨0,0,0⟩ t):=by
  unfold xb rk
  rw [show ((0:Int),(0:Int),(0:Int),(0:Int))=(fun (k:Nat) (s:qa)=>((k:Int),s.bh,s.pU,s.qc)) 0 ⟨0,0,0⟩ from rfl,
    tn t (fun (k:Nat) (s:qa)=>((k:Int),s.bh,s.pU,s.qc)) (fun _ s r=>if r.live then qG s r.qw else s) (fun s=>((t.length:Int),s.bh,s.pU,s.qc)) (fun _ _=>True) ?_ ?_ (Nat.lt_of_lt_of_le hB hN) trivial,uE]
  · rfl
  · intro k s r hy hk _
    refine ⟨?_,trivial⟩
    simp only [qS hk,cond_true,qx,hy,Option.bind_some,qV (Nat.lt_trans hk hB)]
    cases r.live <;> rfl
  · intro s _
    simp only [qR,cond_false]
theorem Kb {N:Nat} (hN:pR≤N) {t:List pW} (hl:t.length=5) (hg:Good t) {k:Nat} {r:pW} (hr:t[k]?=some r) :
    ∃ n,iter (fun (s72:Int×Int)=>((bif (decide (s72.2<5)) then ((idx t (k:Int)).bind fun y77=>bif y77.live then (some (decide (s72.1 > 0))) else (some false)) else (some false):Option Bool).bind fun j74=>bif j74 then ((idx t s72.1).bind fun y89=>some (.inl (y89.parent,IntKind.i64.wrap (s72.2+1)))) else (some (.inr (s72.1,s72.2))):Option ((Int×Int)⊕(Int×Int)))) N ((k:Int),0)=some (if r.live then rF t 5 (k:Int) else (k:Int),n):=by
  have hk:=rj hr
  rw [show (((k:Int),0):Int×Int)=(fun (n:Nat) (a:Int)=>(a,(n:Int))) 0 (k:Int) from rfl,
    uC (List.replicate 5 ()) (fun (n:Nat) (a:Int)=>(a,(n:Int))) (fun n a _=>if r.live&&decide (a > 0) then .inl (up t a) else .inr (a,(n:Int))) (fun a=>(a,5)) (fun _ a=>r.live=true→0≤a∧a≤4∧(nth t a).live=true) ?_ ?_ (NX (k:=0) hN (by decide)) (fun h=>⟨by omega,by omega,by rw [Gt hr];exact h⟩)]
  · have key:∀ (n j:Nat) (a:Int),(tg (ρ:=Int×Int) (fun (n:Nat) a (_:Unit)=>if r.live&&decide (a > 0) then .inl (up t a) else .inr (a,(n:Int))) (fun a=>(a,5)) j a (List.replicate n ())).1=if r.live then rF t n a else a:=by
      intro n
      induction n with
      | zero=>intro j a;simp [tg,rF]
      | succ n ih =>
        intro j a
        rw [List.replicate_succ]
        unfold tg rF
        cases hlv:r.live
        · rfl
        · have ih:=ih (j+1) (up t a)
          rw [hlv] at ih
          by_cases ha:a > 0
          · simpa [ha] using ih
          · simp [ha]
    have:=key 5 0 (k:Int)
    exact ⟨_,congrArg some (Prod.ext this rfl)⟩
  · intro n a y hy hn hI
    obtain ⟨h5,hd⟩:=O2 hn
    simp only [hd,cond_true,qx,hr,Option.bind_some]
    cases hlv:r.live
    · exact ⟨rfl,fun t' h=>by simp at h⟩
    · obtain ⟨i1,i2,i3⟩:=hI hlv
      by_cases ha:a > 0
      · have hd2:decide (a > 0)=true:=by simpa using ha
        simp only [cond_true,hd2,Option.bind_some,rl (l:=t) (i:=a) i1 (by omega),qV (show n<pR from Nat.lt_trans h5 (by decide)),Bool.and_self,if_true]
        refine ⟨rfl,fun t' h _=>?_⟩
        cases h
        obtain ⟨g1,g2,_,g4⟩:=hg a ha i2 i3
        exact ⟨g1,g2,g4⟩
      · have hd2:decide (a > 0)=false:=by simpa using ha
        simp only [cond_true,hd2,Option.bind_some,cond_false]
        exact ⟨rfl,fun t' h=>by simp at h⟩
  · intro a _
    rfl
theorem Ci {N:Nat} (hN:pR≤N) {t:List pW}:vc N t=some (r7 t):=by
  unfold vc r7
  cases h5:((t.length:Int) != 5)
  · have hl:t.length=5:=CM (n:=5) h5
    have hB:t.length<pR:=by rw [hl];decide
    rw [rl (l:=t) (i:=0) (by omega) (by omega)]
    simp only [cond_false,Option.bind_some,sG,Bool.not_false,Bool.true_and]
    cases h1:(nth t 0).live
    · rfl
    cases h2:((nth t 0).parent != (-1))
    · simp only [Bool.not_true,Bool.or_self,cond_false,Bool.true_and,Bool.not_false]
      rw [rT t (p1 t) (.inl (t.length:Int)) (.inr false) (Nat.lt_of_lt_of_le hB hN), ← KM hl h1]
      · simp only [Option.bind_some]
        cases hp:allI (p1 t) 0 t
        · rfl
        · have hg:=Io hl hp
          simp only [if_true,Sum.elim_inl,Bool.true_and]
          rw [rT t (p2 t) (.inl (t.length:Int)) (.inr false) (Nat.lt_of_lt_of_le hB hN)]
          · simp only [Option.bind_some,EA hN hB,yF]
            cases allI (p2 t) 0 t <;> rfl
          · intro k r hy hk
            obtain ⟨n,hn⟩:=Kb hN hl hg hy
            simp only [qS hk,cond_true]
            rw [hn]
            simp only [qx,hy,Option.bind_some,qV (Nat.lt_trans hk hB)]
            unfold p2
            cases hlv:r.live
            · rfl
            · simp only [cond_true,Option.bind_some,if_true,Bool.true_and]
              cases (rF t 5 (k:Int) != 0) <;> rfl
          · simp only [qR,cond_false]
      · intro k r hy hk
        simp only [qS hk,cond_true,qx,hy,Option.bind_some,yF,AX,sG,qV (Nat.lt_trans hk hB)]
        unfold p1
        rw [show pW.mk false 0 (qa.mk 0 0 0)=BA from rfl]
        cases hin:qg r.parent 0 4
        · cases r.live <;> cases decide (r=BA) <;> cases qX r.qw <;> cases decide ((k:Int) > 0) <;> rfl
        · rw [Eo hin (by omega) (show (4:Int)<(t.length:Int) by omega)]
          simp only [Option.bind_some]
          cases r.live <;> cases decide (r=BA) <;> cases qX r.qw <;> cases decide ((k:Int) > 0) <;> cases (r.parent==(k:Int)) <;> cases (nth t r.parent).live <;> rfl
      · simp only [qR,cond_false]
    · rfl
  · rfl
end Go.Kx
