/- Plain laws: ranges, amounts, labels, owned categories, what is started. No program in sight. -/
import Derived.Test.YtikeaiogpfjdnaaGreatHa
namespace Go.Kx
open Go
set_option linter.unusedVariables false
set_option linter.unusedSimpArgs false
set_option maxRecDepth 10000
theorem lp (p q:Bool):(bif p then some q else some false)=some (p&&q):=by cases p <;> rfl
theorem lG (p q:Bool):(bif p then some true else some q)=some (p || q):=by cases p <;> rfl
def iE (a b c:Int):Bool:=decide (b≤a)&&decide (a≤c)
theorem jb {a b c:Int}:iE a b c=true ↔ b≤a∧a≤c:=by simp [iE]
theorem mw (N:Nat) (a b c:Int):iX N a b c=some (iE a b c):=lp _ _
theorem oV (N:Nat) (a b c:Int):jl N a b c=some (iE a b c):=lp _ _
def ux (n:Int):Bool:=iE n 0 1000000
theorem Gj (N:Nat) (a:Int):om N a=some (ux a):=by unfold om;rw [mw];rfl
theorem BY (N:Nat) (a:Int):mn N a=some (ux a):=by unfold mn;rw [oV];rfl
def i7 (a:iw):Bool:=ux a.cd&&(ux a.im&&ux a.iC)
theorem oO (N:Nat) (a:iw):ko N a=some (i7 a):=by unfold ko;simp only [Gj,Option.bind_some,lp];rfl
theorem vw (N:Nat) (a:iw):mE N a=some (i7 a):=by unfold mE;simp only [BY,Option.bind_some,lp];rfl
def iV (a b:iw):iw:=iw.mk (IntKind.i64.wrap (a.cd+b.cd)) (IntKind.i64.wrap (a.im+b.im)) (IntKind.i64.wrap (a.iC+b.iC))
def nI (a b:iw):iw×Bool:=if i7 a&&i7 b&&i7 (iV a b) then (iV a b,true) else (a,false)
theorem tQ (N:Nat) (a b:iw):lT N a b=some (nI a b):=by
  unfold lT nI
  simp only [oO,Option.bind_some,lG]
  show (bif (!i7 a || !i7 b) then some (a,false) else (bif !i7 (iV a b) then some (a,false) else some (iV a b,true)))=_
  cases i7 a <;> cases i7 b <;> cases i7 (iV a b) <;> rfl
theorem xC (N:Nat) (a b:iw):od N a b=some (iV a b):=rfl
def lM (l:jJ):Bool:=((l.levels.length:Int)==4)&&l.levels.all fun y=>iE y 0 3
theorem xX {N:Nat} (hN:iy≤N) {l:jJ} (hb:l.levels.length<iy):nS N l=some (lM l):=by
  unfold nS lM
  rw [jX l.levels (fun _ y=>iE y 0 3) (.inl (l.levels.length:Int)) (.inr false) (Nat.lt_of_lt_of_le hb hN),ky]
  · cases h:((l.levels.length:Int)==4)
    · have:((l.levels.length:Int) != 4)=true:=by simp [bne,h]
      simp [this]
    · have:((l.levels.length:Int) != 4)=false:=by simp [bne,h]
      simp only [this,cond_false,Option.bind_some,Bool.true_and]
      cases l.levels.all fun y=>iE y 0 3 <;> rfl
  · intro k y hy hk
    simp only [jt hk,cond_true,iT,hy,Option.bind_some,mw,jo (Nat.lt_trans hk hb)]
    cases iE y 0 3 <;> rfl
  · simp only [ju,cond_false]
theorem C5 {N:Nat} (hN:iy≤N) {l:jJ} (hb:l.levels.length<iy):pf N l=some (lM l):=by
  unfold pf lM
  rw [jX l.levels (fun _ y=>iE y 0 3) (.inl (l.levels.length:Int)) (.inr false) (Nat.lt_of_lt_of_le hb hN),ky]
  · simp only [Option.bind_some]
    cases l.levels.all fun y=>iE y 0 3 <;> simp
  · intro k y hy hk
    simp only [jt hk,cond_true,iT,hy,Option.bind_some,oV,jo (Nat.lt_trans hk hb)]
    cases iE y 0 3 <;> rfl
  · simp only [ju,cond_false]
def tS (l:List Int) (k:Nat) (y:Int):Bool:=iE y 0 3&&match k with
  | 0=>true
  | j+1=>!decide (y≤(l[j]?).getD 0)
def rn (l:List Int):Bool:=allI (tS l) 0 l
theorem AF {l:List Int} {k:Nat} {y:Int} (hy:l[k]?=some y) (hk:k<l.length) (hb:l.length<iy) {N:Nat} :
    (bif (!(iE y 0 3)) then (some true) else (bif (decide ((k:Int) > 0)) then ((idx l (IntKind.i64.wrap ((k:Int) - 1))).bind fun y18=>some (decide (y≤y18))) else (some false)):Option Bool)=some (!tS l k y):=by
  have hB:l.length<16777216:=hb
  unfold tS
  cases k with
  | zero =>
    have:decide (((0:Nat):Int) > 0)=false:=by decide
    simp only [this,cond_false]
    cases iE y 0 3 <;> rfl
  | succ j =>
    have:decide (((j+1:Nat):Int) > 0)=true:=by simp
    have e:IntKind.i64.wrap (((j+1:Nat):Int) - 1)=(j:Int):=by rw [iM (by omega) (by omega)];omega
    have hz:l[j]?=some (l[j]'(by omega)):=List.getElem?_eq_getElem _
    simp only [this,cond_true,e,iT,hz,Option.bind_some,Option.getD_some]
    cases iE y 0 3 <;> simp
theorem Bd {N:Nat} (hN:iy≤N) {l:List Int} (hb:l.length<iy):pZ N l=some (rn l):=by
  unfold pZ rn
  rw [jX l (tS l) (.inl (l.length:Int)) (.inr false) (Nat.lt_of_lt_of_le hb hN)]
  · simp only [Option.bind_some]
    cases allI (tS l) 0 l <;> rfl
  · intro k y hy hk
    simp only [jt hk,cond_true,iT,hy,Option.bind_some,mw,jo (Nat.lt_trans hk hb)]
    rw [AF hy hk hb (N:=N)]
    cases tS l k y <;> rfl
  · simp only [ju,cond_false]
theorem Ef {N:Nat} (hN:iy≤N) {l:List Int} (hb:l.length<iy):rA N l=some (rn l):=by
  unfold rA rn
  rw [jX l (tS l) (.inl (l.length:Int)) (.inr false) (Nat.lt_of_lt_of_le hb hN)]
  · simp only [Option.bind_some]
    cases allI (tS l) 0 l <;> rfl
  · intro k y hy hk
    simp only [jt hk,cond_true,iT,hy,Option.bind_some,oV,jo (Nat.lt_trans hk hb),ge_iff_le]
    rw [AF hy hk hb (N:=N)]
    cases tS l k y <;> rfl
  · simp only [ju,cond_false]
theorem Er {N:Nat} (hN:iy≤N) {l:List Int} {x:Int} (hb:l.length<iy):∃ r,nN N l x=some r∧decide (r ≥ 0)=l.contains x:=by
  unfold nN
  have hB:l.length<16777216:=hb
  rw [show (0:Int)=(fun (k:Nat) (_:Unit)=>(k:Int)) 0 () from rfl,nj l (fun k (_:Unit)=>(k:Int)) (fun k _ y=>if x==y then .inr (.inr (k:Int)) else .inl ()) (fun _=>.inl (l.length:Int)) (fun _ _=>True) ?_ ?_ (Nat.lt_of_lt_of_le hb hN) trivial]
  · simp only [Option.bind_some]
    have key:∀ (m:List Int) (k:Nat), ∃ r,Sum.elim (fun _=>some (-1)) (fun r16=>some r16) (mo (ρ:=Int⊕Int) (fun (k:Nat) (_:Unit) y=>if x==y then .inr (.inr (k:Int)) else .inl ()) (fun _=>.inl (l.length:Int)) k () m)=some r∧decide (r ≥ 0)=m.contains x:=by
      intro m
      induction m with
      | nil=>intro k;exact ⟨-1,rfl,rfl⟩
      | cons y m ih =>
        intro k
        cases hxy:(x==y)
        · obtain ⟨r,h1,h2⟩:=ih (k+1)
          have hne:x ≠ y:=by simpa using hxy
          refine ⟨r,by simpa [mo,hxy] using h1,by rw [h2];simp [List.contains_cons,hne]⟩
        · have he:x=y:=by simpa using hxy
          exact ⟨k,by simp [mo,hxy],by simp [List.contains_cons,he]⟩
    exact key l 0
  · intro k _ y hy hk _
    simp only [jt hk,cond_true,iT,hy,Option.bind_some,jo (Nat.lt_trans hk hb)]
    cases (x==y) <;> simp
  · intro _ _
    simp only [ju,cond_false]
theorem tZ {N:Nat} (hN:iy≤N) {l:List Int} {x:Int} (hb:l.length<iy):kR N l x=some (l.contains x):=by
  unfold kR
  obtain ⟨r,h1,h2⟩:=Er hN hb (x:=x)
  rw [h1,Option.bind_some,h2]
end Go.Kx
/- Plain laws of what is told alike: labels, things, parts, worlds. No program in sight. -/
namespace Go.Kx
open Go
set_option linter.unusedVariables false
set_option linter.unusedSimpArgs false
set_option maxRecDepth 10000
theorem yh {N:Nat} (hN:iy≤N) {a b:List Int} (ha:a.length<iy):pe N a b=some (decide (a=b)):=vt a b (· != ·) (by intro y z;by_cases h:y=z <;> simp [h]) ha hN
theorem vK {N:Nat} (hN:iy≤N) {a b:List Int} (ha:a.length<iy):nM N a b=some (decide (a=b)):=vt a b (· != ·) (by intro y z;by_cases h:y=z <;> simp [h]) ha hN
theorem Ay {N:Nat} (hN:iy≤N) {a b:List jq} (ha:a.length<iy):pQ N a b=some (decide (a=b)):=vt a b (fun y z=>!decide (y=z)) (fun _ _=>rfl) ha hN
theorem C6 (a b:jJ):decide (a.levels=b.levels)=decide (a=b):=by cases a;cases b;simp
theorem z0 {N:Nat} (hN:iy≤N) {a b:jJ} (ha:a.levels.length<iy):pP N a b=some (decide (a=b)):=by
  rw [← C6]
  exact vt a.levels b.levels (· != ·) (by intro y z;by_cases h:y=z <;> simp [h]) ha hN
theorem vy {o:bh} (h:iu o<iy):o.ib.length<iy∧o.data.length<iy∧o.queue.length<iy:=by unfold iu at h;omega
theorem C2 {N:Nat} (hN:iy≤N) {a b:bh} (ha:iu a<iy):o5 N a b=some (decide (a=b)):=by
  obtain ⟨h1,h2,h3⟩:=vy ha
  unfold o5
  simp only [vK hN h1,vK hN h2,Ay hN h3,Option.bind_some,lp]
  congr 1
  rw [Bool.eq_iff_iff]
  cases a;cases b
  simp [bh.mk.injEq]
theorem DB {N:Nat} (hN:iy≤N) {a b:bh} (ha:iu a<iy):oT N a b=some (decide (a=b)):=by
  obtain ⟨h1,h2,h3⟩:=vy ha
  unfold oT
  simp only [lG,Option.bind_some]
  cases hj:(a.gen != b.gen || (a.kind != b.kind || (a.box != b.box || (a.res != b.res || (a.iN != b.iN || (a.cd != b.cd || (a.wait != b.wait || (a.iO != b.iO || (a.iP != b.iP || (!(a.mark==b.mark) || ((a.ib.length:Int) != (b.ib.length:Int) || ((a.data.length:Int) != (b.data.length:Int) || ((a.queue.length:Int) != (b.queue.length:Int))))))))))))))
  · simp only [Bool.or_eq_false_iff,bne_eq_false_iff_eq,Bool.not_eq_false',beq_iff_eq] at hj
    obtain ⟨e1,e2,e3,e4,e5,e6,e7,e8,e9,e10,l1,l2,l3⟩:=hj
    simp only [cond_false]
    rw [tH a.ib b.ib (by omega) (.inl (a.ib.length:Int)) (.inr false) (Nat.lt_of_lt_of_le h1 hN),Option.bind_some,
      tH a.data b.data (by omega) (.inl (a.data.length:Int)) (.inr false) (Nat.lt_of_lt_of_le h2 hN),Option.bind_some,
      tH a.queue b.queue (by omega) (.inl (a.queue.length:Int)) (.inr false) (Nat.lt_of_lt_of_le h3 hN),Option.bind_some]
    · have:decide (a=b)=(decide (a.ib=b.ib)&&(decide (a.data=b.data)&&decide (a.queue=b.queue))):=by
        rw [Bool.eq_iff_iff]
        cases a;cases b
        simp_all [bh.mk.injEq]
      rw [this]
      by_cases q1:a.ib=b.ib <;> by_cases q2:a.data=b.data <;> by_cases q3:a.queue=b.queue <;> simp [q1,q2,q3]
    · intro k y z hy hz hk
      simp only [jt hk,cond_true,iT,hy,hz,Option.bind_some,jo (Nat.lt_trans hk h3)]
      by_cases h:y=z <;> simp [h]
    · simp only [ju,cond_false]
    · intro k y z hy hz hk
      simp only [jt hk,cond_true,iT,hy,hz,Option.bind_some,Bb,jo (Nat.lt_trans hk h2)]
      by_cases h:y=z <;> simp [h]
    · simp only [ju,cond_false]
    · intro k y z hy hz hk
      simp only [jt hk,cond_true,iT,hy,hz,Option.bind_some,Bb,jo (Nat.lt_trans hk h1)]
      by_cases h:y=z <;> simp [h]
    · simp only [ju,cond_false]
  · have:¬ a=b:=by
      rintro rfl
      simp at hj
    simp [this]
theorem z7 {N:Nat} (hN:iy≤N) {a b:List bh} (ha:jr iu a<iy):pR N a b=some (decide (a=b)):=AM a b (oT N) (fun y z hy _=>DB hN (sj ha hy)) (si ha) hN
theorem m4 {p:ia} (h:je p<iy):p.label.levels.length<iy∧p.own.length<iy∧p.tree.length<iy∧jr iu p.heap.ag<iy∧p.heap.gc.gE.length<iy∧p.iz.length<iy:=by
  unfold je ml oH l6 at h;omega
theorem Bx {N:Nat} (hN:iy≤N) {a b:ia} (ha:je a<iy):oG N a b=some (decide (a=b)):=by
  obtain ⟨h1,h2,h3,h4,h5,h6⟩:=m4 ha
  unfold oG
  simp only [z0 hN h1,yh hN h2,z7 hN h4,yh hN h5,Option.bind_some,lG,lp]
  cases hj:(!decide (a.label=b.label) || (!decide (a.own=b.own) || ((a.tree.length:Int) != (b.tree.length:Int) || ((a.iz.length:Int) != (b.iz.length:Int) || (a.next != b.next || (a.want != b.want || (!decide (a.hZ=b.hZ) || (a.iH != b.iH || a.lost != b.lost))))))))
  · simp only [Bool.or_eq_false_iff,bne_eq_false_iff_eq,Bool.not_eq_false',decide_eq_true_eq] at hj
    obtain ⟨e1,e2,l1,l2,e3,e4,e5,e6,e7⟩:=hj
    simp only [cond_false]
    rw [tH a.tree b.tree (by omega) (.inl (a.tree.length:Int)) (.inr false) (Nat.lt_of_lt_of_le h3 hN),Option.bind_some,
      tH a.iz b.iz (by omega) (.inl (a.iz.length:Int)) (.inr false) (Nat.lt_of_lt_of_le h6 hN),Option.bind_some]
    · have:decide (a=b)=(decide (a.tree=b.tree)&&(decide (a.iz=b.iz)&&(decide (a.heap.ag=b.heap.ag)&&((a.heap.gc.phase==b.heap.gc.phase)&&((a.heap.gc.pos==b.heap.gc.pos)&&((a.heap.gc.round==b.heap.gc.round)&&decide (a.heap.gc.gE=b.heap.gc.gE))))))):=by
        rw [Bool.eq_iff_iff]
        obtain ⟨_,_,_,⟨_,⟨_,_,_,_⟩⟩,_,_,_,_,_,_⟩:=a
        obtain ⟨_,_,_,⟨_,⟨_,_,_,_⟩⟩,_,_,_,_,_,_⟩:=b
        simp only at e1 e2 e3 e4 e5 e6 e7
        subst e1;subst e2;subst e3;subst e4;subst e5;subst e6;subst e7
        simp only [ia.mk.injEq,ic.mk.injEq,jH.mk.injEq,Bool.and_eq_true,decide_eq_true_eq,beq_iff_eq,true_and,and_true]
        constructor
        · rintro ⟨q1,⟨q2,q3,q4,q5,q6⟩,q7⟩;exact ⟨q1,q7,q2,q3,q4,q5,q6⟩
        · rintro ⟨q1,q7,q2,q3,q4,q5,q6⟩;exact ⟨q1,⟨q2,q3,q4,q5,q6⟩,q7⟩
      rw [this]
      by_cases q1:a.tree=b.tree <;> by_cases q2:a.iz=b.iz <;> simp [q1,q2]
    · intro k y z hy hz hk
      simp only [jt hk,cond_true,iT,hy,hz,Option.bind_some,jo (Nat.lt_trans hk h6)]
      by_cases h:y=z <;> simp [h]
    · simp only [ju,cond_false]
    · intro k y z hy hz hk
      simp only [jt hk,cond_true,iT,hy,hz,Option.bind_some,jo (Nat.lt_trans hk h3)]
      by_cases h:y=z <;> simp [h]
    · simp only [ju,cond_false]
  · have:¬ a=b:=by
      rintro rfl
      simp at hj
    simp [this]
end Go.Kx
/- Plain laws: copies are what they copy. No program in sight. -/
namespace Go.Kx
open Go
set_option linter.unusedVariables false
set_option linter.unusedSimpArgs false
set_option maxRecDepth 10000
theorem kl {α:Type} {l:List α} (h:l.length<iy):app ([]:List α) l=some l:=by
  unfold app;rw [if_pos (by simpa using h)];rfl
theorem qz {N:Nat} {l:List Int} (h:l.length<iy):lh N l=some l:=by unfold lh;rw [kl h];rfl
theorem Aa {N:Nat} {l:jJ} (h:l.levels.length<iy):nJ N l=some l:=by unfold nJ;rw [qz h];rfl
theorem wV {N:Nat} {l:List iq} (h:l.length<iy):m9 N l=some l:=by unfold m9;rw [kl h];rfl
theorem oq {N:Nat} {l:List iq} (h:l.length<iy):kN N l=some l:=by unfold kN;rw [kl h];rfl
theorem B2 {N:Nat} {o:bh} (h:iu o<iy):pD N o=some o:=by
  obtain ⟨h1,h2,h3⟩:=vy h
  unfold pD
  simp only [qz h1,qz h2,kl h3,Option.bind_some]
theorem AR {N:Nat} {o:bh} (h:iu o<iy):qe N o=some o:=by
  obtain ⟨h1,h2,h3⟩:=vy h
  unfold qe
  simp only [kl h1,kl h2,kl h3,Option.bind_some]
theorem vH {N:Nat} (hN:iy≤N) {l:List bh} (hb:jr iu l<iy):mz N l=some l:=by
  have hl:=si hb
  unfold mz
  rw [rT l (fun _ _=>true) (fun _ y=>y) hl hN,sS (fun _=>true)]
  · simp
  · intro k t y hy hk ht
    simp only [jt hk,cond_true,iT,hy,Option.bind_some,B2 (sj hb (List.mem_of_getElem? hy)),jo (Nat.lt_trans hk hl),m0 ht (Nat.lt_of_le_of_lt hk hl)]
    rfl
  · intro t
    simp only [ju,cond_false]
theorem wc {N:Nat} (hN:iy≤N) {l:List bh} (hb:jr iu l<iy):mO N l=some l:=by
  have hl:=si hb
  unfold mO
  rw [rT l (fun _ _=>true) (fun _ y=>y) hl hN,sS (fun _=>true)]
  · simp
  · intro k t y hy hk ht
    simp only [jt hk,cond_true,iT,hy,Option.bind_some,AR (sj hb (List.mem_of_getElem? hy)),jo (Nat.lt_trans hk hl),m0 ht (Nat.lt_of_le_of_lt hk hl)]
    rfl
  · intro t
    simp only [ju,cond_false]
theorem xi {N:Nat} (hN:iy≤N) {h:ic} (h1:jr iu h.ag<iy) (h2:h.gc.gE.length<iy):m8 N h=some h:=by
  unfold m8
  simp only [vH hN h1,qz h2,Option.bind_some]
theorem s8 {N:Nat} (hN:iy≤N) {h:ic} (h1:jr iu h.ag<iy) (h2:h.gc.gE.length<iy):l5 N h=some h:=by
  unfold l5
  simp only [wc hN h1,kl h2,Option.bind_some]
theorem BH {N:Nat} (hN:iy≤N) {p:ia} (h:je p<iy):oB N p=some p:=by
  obtain ⟨h1,h2,h3,h4,h5,h6⟩:=m4 h
  unfold oB
  simp only [Aa h1,qz h2,wV h3,xi hN h4 h5,kl h6,Option.bind_some]
theorem uB {N:Nat} (hN:iy≤N) {p:ia} (h:je p<iy):mZ N p=some p:=by
  obtain ⟨h1,h2,h3,h4,h5,h6⟩:=m4 h
  unfold mZ
  simp only [kl h1,kl h2,oq h3,s8 hN h4 h5,kl h6,Option.bind_some]
theorem wi {α:Type} {l:List α} {k:Nat} (h:k≤l.length):sub l 0 (k:Int)=some (l.take k):=by
  unfold sub
  rw [if_pos ⟨Int.le_refl _,by omega,by omega⟩]
  simp
end Go.Kx
/- Plain laws: the first draws come to an end. No program in sight. -/
namespace Go.Kx
open Go
set_option linter.unusedVariables false
set_option linter.unusedSimpArgs false
set_option maxRecDepth 10000
theorem tF {σ ρ:Type} {body:σ→Option (σ⊕ρ)} (I:σ→Prop) (J:ρ→Prop) (μ:σ→Nat)
    (h:∀ s,I s→∃ o,body s=some o∧(∀ s',o=.inl s'→I s'∧μ s'<μ s)∧∀ r,o=.inr r→J r):∀ (N:Nat) (s:σ),I s→μ s<N→∃ r,iter body N s=some r∧J r
  | 0,_,_,hN=>absurd hN (Nat.not_lt_zero _)
  | N+1,s,hI,hN=>by
    obtain ⟨o,ho,h1,h2⟩:=h s hI
    cases o with
    | inl s' =>
      obtain ⟨hI',hm⟩:=h1 s' rfl
      obtain ⟨r,hr,hJ⟩:=tF I J μ h N s' hI' (by omega)
      exact ⟨r,by show (body s).bind _=_;rw [ho];exact hr,hJ⟩
    | inr r=>exact ⟨r,by show (body s).bind _=_;rw [ho];rfl,h2 r rfl⟩
theorem u9 {α:Type} {l:List α} {i:Int} (h0:0≤i) (h1:i<(l.length:Int)):∃ y,idx l i=some y∧y ∈ l:=by
  have hz:l[i.toNat]?=some (l[i.toNat]'(by omega)):=List.getElem?_eq_getElem _
  exact ⟨_,by unfold idx;rw [if_pos h0,hz],List.getElem_mem _⟩
theorem AY (a:Int) {m:Int} (h0:0≤m) (h1:m≤2147483647):0≤va a m∧va a m≤m:=by
  have h:(BitVec.ofInt IntKind.i64.bits a &&& BitVec.ofInt IntKind.i64.bits m).toNat≤m.toNat:=by
    rw [BitVec.toNat_and]
    refine Nat.le_trans Nat.and_le_right ?_
    rw [BitVec.toNat_ofInt]
    show (m % ((2 ^ 64:Nat):Int)).toNat≤m.toNat
    rw [Int.emod_eq_of_lt h0 (by omega)]
    exact Nat.le_refl _
  unfold va
  rw [iM (by omega) (by omega)]
  omega
def Cu (c:ik):Prop:=c.b.length≤1048576∧0≤c.i
theorem Cu.to {c:ik} (hc:Cu c) {i h:Int} (hi:0≤i):Cu ⟨c.b,i,h⟩:=⟨hc.1,hi⟩
theorem FT {N:Nat} (hN:iy≤N) {l:List U8} (hl:l.length≤1048576):∃ h,qk N l=some ⟨l,0,h⟩:=by
  unfold qk
  have hB:(16777216:Nat)≤N:=hN
  obtain ⟨r,hr,_⟩:=tF (body:=fun (s1:Int×Int)=>((bif (decide (s1.2<(l.length:Int))) then (some (decide (s1.2<4000))) else (some false):Option Bool).bind fun j3=>bif j3 then ((idx l s1.2).bind fun y8=>some (.inl (va (IntKind.i64.wrap ((IntKind.i64.wrap ((IntKind.i64.wrap (s1.1 * 131))+(IntKind.i64.wrap y8.v)))+7)) 1073741823,IntKind.i64.wrap (s1.2+1)))) else (some (.inr (s1.1,s1.2))):Option ((Int×Int)⊕(Int×Int))))
    (fun s=>0≤s.2∧s.2≤(l.length:Int)) (fun _=>True) (fun s=>((l.length:Int) - s.2).toNat) (by
      rintro ⟨h,i⟩ ⟨h0,h1⟩
      simp only at h0 h1
      cases hlt:decide (i<(l.length:Int)) with
      | false=>exact ⟨_,by simp only [hlt,cond_false,Option.bind_some];rfl,by simp,fun _ _=>trivial⟩
      | true =>
        have h2:=of_decide_eq_true hlt
        cases h4:decide (i<4000) with
        | false=>exact ⟨_,by simp only [hlt,h4,cond_false,cond_true,Option.bind_some];rfl,by simp,fun _ _=>trivial⟩
        | true =>
          obtain ⟨y,hy,_⟩:=u9 h0 h2
          refine ⟨_,by simp only [hlt,h4,hy,cond_true,Option.bind_some];rfl,?_,by simp⟩
          rintro s' hs
          cases Sum.inl.inj hs
          simp only
          rw [iM (by omega) (by omega)]
          omega) N (IntKind.i64.wrap (10101+(l.length:Int)),0) ⟨Int.le_refl _,by simp⟩ (by simp only;omega)
  rw [hr]
  exact ⟨r.1,rfl⟩
theorem uJ {N:Nat} {c:ik} (hc:Cu c):∃ x i h,lW N c=some (x,⟨c.b,i,h⟩)∧0≤i∧0≤x∧x≤255:=by
  unfold lW
  obtain ⟨hb,hi⟩:=hc
  cases hlt:decide (c.i<(c.b.length:Int)) with
  | true =>
    have h1:=of_decide_eq_true hlt
    obtain ⟨y,hy,_⟩:=u9 hi h1
    simp only [hy,cond_true,Option.bind_some]
    exact ⟨_,_,_,rfl,by rw [iM (by omega) (by omega)];omega,AY _ (by decide) (by decide)⟩
  | false=>exact ⟨_,_,_,rfl,hi,AY _ (by decide) (by decide)⟩
theorem zi {a n:Int} (ha:0≤a) (hn:0<n):0≤Int.tmod a n∧Int.tmod a n<n:=by
  rw [Int.tmod_eq_emod_of_nonneg ha]
  exact ⟨Int.emod_nonneg _ (by omega),Int.emod_lt_of_pos _ hn⟩
theorem DP {n:Int} (h:n ≠ 0):dz n=some ():=by unfold dz;rw [if_neg h]
theorem qj {N:Nat} {c:ik} (hc:Cu c) (n:Int):∃ x i h,il N c n=some (x,⟨c.b,i,h⟩)∧0≤i∧0≤x∧(0<n→x<n)∧(n≤0→x=0):=by
  unfold il
  cases h0:decide (n≤0) with
  | true=>exact ⟨0,c.i,c.h,rfl,hc.2,Int.le_refl _,fun h=>h,fun _=>rfl⟩
  | false =>
    have hn:=of_decide_eq_false h0
    simp only [cond_false]
    cases h1:decide (n≤256) with
    | true =>
      obtain ⟨x,i,h,e,hi,hx,_⟩:=uJ (N:=N) hc
      simp only [cond_true,e,Option.bind_some,DP (show n ≠ 0 by omega)]
      obtain ⟨q1,q2⟩:=zi hx (show 0<n by omega)
      exact ⟨_,i,h,rfl,hi,q1,fun _=>q2,fun h=>by omega⟩
    | false =>
      obtain ⟨x1,i1,h1,e1,hi1,hx1,hy1⟩:=uJ (N:=N) hc
      obtain ⟨x2,i2,h2,e2,hi2,hx2,hy2⟩:=uJ (N:=N) (hc.to (h:=h1) hi1)
      obtain ⟨x3,i3,h3,e3,hi3,hx3,hy3⟩:=uJ (N:=N) (hc.to (h:=h2) hi2)
      obtain ⟨x4,i4,h4,e4,hi4,hx4,hy4⟩:=uJ (N:=N) (hc.to (h:=h3) hi3)
      simp only [cond_false,e1,e2,e3,e4,Option.bind_some,DP (show n ≠ 0 by omega)]
      rw [iM (n:=x1 * 16777216) (by omega) (by omega),iM (n:=x2 * 65536) (by omega) (by omega),iM (n:=x3 * 256) (by omega) (by omega),
        iM (n:=x1 * 16777216+x2 * 65536) (by omega) (by omega),iM (n:=x1 * 16777216+x2 * 65536+x3 * 256) (by omega) (by omega),iM (n:=x1 * 16777216+x2 * 65536+x3 * 256+x4) (by omega) (by omega)]
      obtain ⟨q1,q2⟩:=zi (show 0≤x1 * 16777216+x2 * 65536+x3 * 256+x4 by omega) (show 0<n by omega)
      exact ⟨_,i4,h4,rfl,hi4,q1,fun _=>q2,fun h=>by omega⟩
theorem ze {N:Nat} {c:ik} (hc:Cu c) (n:Int):∃ x i h,jK N c n=some (x,⟨c.b,i,h⟩)∧0≤i:=by
  unfold jK
  obtain ⟨x,i,h,e,hi,_⟩:=qj (N:=N) hc n
  simp only [e,Option.bind_some]
  exact ⟨_,i,h,rfl,hi⟩
theorem uA {N:Nat} {c:ik} (hc:Cu c) {l:List Int} (hl:0<l.length):∃ x i h,iU N c l=some (x,⟨c.b,i,h⟩)∧0≤i∧x ∈ l:=by
  unfold iU
  obtain ⟨x,i,h,e,hi,hx,hy,_⟩:=qj (N:=N) hc (l.length:Int)
  obtain ⟨y,hy,hm⟩:=u9 hx (hy (by omega))
  simp only [e,Option.bind_some,hy]
  exact ⟨_,i,h,rfl,hi,hm⟩
theorem sy {α:Type} {t:List α} {z:α} (h:t.length≤1000000):app t [z]=some (t++[z]):=by
  have:(16777216:Nat)=iy:=rfl
  unfold app;rw [if_pos (by simp only [List.length_cons,List.length_nil];omega)]
theorem Bc {N:Nat} (hN:iy≤N) {c:ik} (hc:Cu c):∃ x i h,l7 N c=some (x,⟨c.b,i,h⟩)∧0≤i∧x.levels.length=4∧∀ y,y ∈ x.levels→0≤y∧y≤3:=by
  unfold l7
  have hB:(16777216:Nat)≤N:=hN
  obtain ⟨r,hr,hJ⟩:=tF (body:=fun (s6:Int×Int×Int×(List Int))=>(bif (decide (s6.1<4)) then ((il N (ik.mk c.b s6.2.1 s6.2.2.1) 4).bind fun y9=>(app s6.2.2.2 ([y9.1]:List Int)).bind fun y16=>some (.inl (IntKind.i64.wrap (s6.1+1),y9.2.i,y9.2.h,y16))) else (some (.inr (s6.1,s6.2.1,s6.2.2.1,s6.2.2.2))):Option ((Int×Int×Int×(List Int))⊕(Int×Int×Int×(List Int)))))
    (fun s=>0≤s.1∧s.1≤4∧0≤s.2.1∧(s.2.2.2.length:Int)=s.1∧∀ y,y ∈ s.2.2.2→0≤y∧y≤3) (fun s=>0≤s.2.1∧s.2.2.2.length=4∧∀ y,y ∈ s.2.2.2→0≤y∧y≤3) (fun s=>(4 - s.1).toNat) (by
      rintro ⟨k,i,h,l⟩ ⟨h0,h1,h2,h3,h4⟩
      simp only at h0 h1 h2 h3 h4
      cases hlt:decide (k<4) with
      | false =>
        have:=of_decide_eq_false hlt
        refine ⟨_,by simp only [hlt,cond_false];rfl,by simp,fun r hr=>?_⟩
        cases Sum.inr.inj hr
        exact ⟨h2,by simp only;omega,h4⟩
      | true =>
        have:=of_decide_eq_true hlt
        obtain ⟨x,i',h',e,hi,hx,hy,_⟩:=qj (N:=N) (hc.to (h:=h) h2) 4
        refine ⟨_,by simp only [hlt,cond_true,e,Option.bind_some,sy (t:=l) (z:=x) (by omega)];rfl,?_,by simp⟩
        rintro s' hs
        cases Sum.inl.inj hs
        simp only
        rw [iM (by omega) (by omega)]
        refine ⟨⟨by omega,by omega,hi,by simp only [List.length_append,List.length_cons,List.length_nil];omega,fun y hm=>?_⟩,by omega⟩
        rcases List.mem_append.1 hm with hm | hm
        · exact h4 y hm
        · rw [List.mem_singleton] at hm
          have:=hy (by omega)
          omega) N (0,c.i,c.h,[]) ⟨Int.le_refl _,by simp,hc.2,rfl,by simp⟩ (by simp only;omega)
  rw [hr]
  exact ⟨_,_,_,rfl,hJ.1,hJ.2.1,hJ.2.2⟩
theorem Bo {N:Nat} (hN:iy≤N) {c:ik} (hc:Cu c):∃ x i h,qh N c=some (x,⟨c.b,i,h⟩)∧0≤i∧x.levels.length≤5:=by
  unfold qh
  obtain ⟨x,i,h,e,hi,hl,_⟩:=Bc hN hc
  obtain ⟨x1,i1,h1,e1,hi1,_⟩:=qj (N:=N) (hc.to (h:=h) hi) 14
  obtain ⟨x2,i2,h2,e2,hi2,hx2,hy2,_⟩:=qj (N:=N) (hc.to (h:=h1) hi1) 4
  have hy2:=hy2 (by decide)
  obtain ⟨x3,i3,h3,e3,hi3,_⟩:=uA (N:=N) (hc.to (h:=h2) hi2) (l:=[-1,4]) (by decide)
  simp only [e,e1,Option.bind_some]
  cases x1==0
  · cases x1==1
    · cases x1==2
      · exact ⟨_,i1,h1,rfl,hi1,by simp only;omega⟩
      · simp only [cond_true,cond_false,sy (t:=x.levels) (z:=0) (by omega),Option.bind_some]
        exact ⟨_,i1,h1,rfl,hi1,by simp only [List.length_append,List.length_cons,List.length_nil];omega⟩
    · obtain ⟨y,hy,_⟩:=u9 (l:=x.levels) hx2 (by omega)
      simp only [cond_true,cond_false,e2,e3,hy,Option.bind_some]
      exact ⟨_,i3,h3,rfl,hi3,by simp only [List.length_set];omega⟩
  · have hs:sub x.levels 0 x2=some ((x.levels.drop (0:Int).toNat).take (x2.toNat - (0:Int).toNat)):=by unfold sub;rw [if_pos ⟨Int.le_refl _,hx2,by omega⟩]
    simp only [cond_true,e2,hs,Option.bind_some]
    exact ⟨_,i2,h2,rfl,hi2,by simp only [List.length_take,List.length_drop];omega⟩
theorem FM {N:Nat} (hN:iy≤N) {c:ik} (hc:Cu c):∃ x i h,qb N c=some (x,⟨c.b,i,h⟩)∧0≤i∧x.length≤5:=by
  unfold qb
  have hB:(16777216:Nat)≤N:=hN
  obtain ⟨r,hr,hJ⟩:=tF (body:=fun (s4:(List Int)×Int×Int×Int)=>(bif (decide (s4.2.1<4)) then ((jK N (ik.mk c.b s4.2.2.1 s4.2.2.2) 3).bind fun y7=>bif y7.1 then ((app s4.1 [s4.2.1]).bind fun y14=>some (.inl (y14,IntKind.i64.wrap (s4.2.1+1),y7.2.i,y7.2.h))) else (some (.inl (s4.1,IntKind.i64.wrap (s4.2.1+1),y7.2.i,y7.2.h)))) else (some (.inr (s4.1,s4.2.1,s4.2.2.1,s4.2.2.2))):Option (((List Int)×Int×Int×Int)⊕((List Int)×Int×Int×Int))))
    (fun s=>0≤s.2.1∧s.2.1≤4∧0≤s.2.2.1∧(s.1.length:Int)≤s.2.1) (fun s=>0≤s.2.2.1∧s.1.length≤4) (fun s=>(4 - s.2.1).toNat) (by
      rintro ⟨l,k,i,h⟩ ⟨h0,h1,h2,h3⟩
      simp only at h0 h1 h2 h3
      cases hlt:decide (k<4) with
      | false =>
        have:=of_decide_eq_false hlt
        refine ⟨_,by simp only [hlt,cond_false];rfl,by simp,fun r hr=>?_⟩
        cases Sum.inr.inj hr
        exact ⟨h2,by simp only;omega⟩
      | true =>
        have:=of_decide_eq_true hlt
        obtain ⟨x,i',h',e,hi⟩:=ze (N:=N) (hc.to (h:=h) h2) 3
        cases x with
        | false =>
          refine ⟨_,by simp only [hlt,cond_true,cond_false,e,Option.bind_some];rfl,?_,by simp⟩
          rintro s' hs
          cases Sum.inl.inj hs
          simp only
          rw [iM (by omega) (by omega)]
          exact ⟨⟨by omega,by omega,hi,by omega⟩,by omega⟩
        | true =>
          refine ⟨_,by simp only [hlt,cond_true,e,Option.bind_some,sy (t:=l) (z:=k) (by omega)];rfl,?_,by simp⟩
          rintro s' hs
          cases Sum.inl.inj hs
          simp only
          rw [iM (by omega) (by omega)]
          exact ⟨⟨by omega,by omega,hi,by simp only [List.length_append,List.length_cons,List.length_nil];omega⟩,by omega⟩) N ([],0,c.i,c.h) ⟨Int.le_refl _,by simp,hc.2,by simp⟩ (by simp only;omega)
  rw [hr]
  obtain ⟨j1,j2⟩:=hJ
  obtain ⟨x1,i1,h1,e1,hi1,_⟩:=qj (N:=N) (hc.to (h:=r.2.2.2) j1) 20
  simp only [e1,Option.bind_some,sy (t:=r.1) (z:=(4:Int)) (by omega),sy (t:=r.1) (z:=(0:Int)) (by omega)]
  cases x1==0
  · cases x1==1
    · exact ⟨_,i1,h1,rfl,hi1,by omega⟩
    · exact ⟨_,i1,h1,rfl,hi1,by simp only [List.length_append,List.length_cons,List.length_nil];omega⟩
  · exact ⟨_,i1,h1,rfl,hi1,by simp only [List.length_append,List.length_cons,List.length_nil];omega⟩
theorem Bt {N:Nat} {c:ik} (hc:Cu c):∃ x i h,oC N c=some (x,⟨c.b,i,h⟩)∧0≤i:=by
  unfold oC
  obtain ⟨x,i,h,e,hi⟩:=ze (N:=N) hc 20
  simp only [e,Option.bind_some]
  cases x
  · obtain ⟨x1,i1,h1,e1,hi1,_⟩:=qj (N:=N) (hc.to (h:=h) hi) 60
    simp only [cond_false,e1,Option.bind_some]
    exact ⟨_,i1,h1,rfl,hi1⟩
  · obtain ⟨x1,i1,h1,e1,hi1,_⟩:=uA (N:=N) (hc.to (h:=h) hi) (l:=[-1,1000000,1000001,999999]) (by decide)
    simp only [cond_true,e1,Option.bind_some]
    exact ⟨_,i1,h1,rfl,hi1⟩
theorem FR {N:Nat} {c:ik} (hc:Cu c):∃ x i h,pX N c=some (x,⟨c.b,i,h⟩)∧0≤i:=by
  unfold pX
  obtain ⟨x1,i1,h1,e1,hi1⟩:=Bt (N:=N) hc
  obtain ⟨x2,i2,h2,e2,hi2⟩:=Bt (N:=N) (hc.to (h:=h1) hi1)
  obtain ⟨x3,i3,h3,e3,hi3⟩:=Bt (N:=N) (hc.to (h:=h2) hi2)
  simp only [e1,e2,e3,Option.bind_some]
  exact ⟨_,i3,h3,rfl,hi3⟩
end Go.Kx
