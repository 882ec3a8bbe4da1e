/- Plain laws: trees of reserves. No program in sight. -/
import Derived.Test.YtdlodpchnaojhaaGreatLBoot
namespace Go.Kx
open Go
set_option linter.unusedVariables false
set_option linter.unusedSimpArgs false
set_option maxRecDepth 10000
def nth {α:Type} [iB α] (l:List α) (i:Int):α:=(l[i.toNat]?).getD iB.zero
theorem jC {α:Type} [iB α] {l:List α} {i:Int} (h0:0≤i) (h1:i<(l.length:Int)):idx l i=some (nth l i):=by
  have hz:l[i.toNat]?=some (l[i.toNat]'(by omega)):=List.getElem?_eq_getElem _
  unfold idx nth
  rw [if_pos h0,hz];rfl
theorem zN {α:Type} [iB α] {l:List α} {i a b:Int} (h:iE i a b=true) (ha:0≤a) (hb:b<(l.length:Int)):idx l i=some (nth l i):=by
  rw [i7] at h
  exact jC (by omega) (by omega)
theorem vW {α:Type} [iB α] {l:List α} {k:Nat} {y:α} (h:l[k]?=some y):nth l (k:Int)=y:=by simp [nth,h]
theorem kT {α:Type} [iB α] {l:List α} {i:Int} (h0:0≤i) (h1:i<(l.length:Int)):nth l i ∈ l:=by
  have hz:l[i.toNat]?=some (l[i.toNat]'(by omega)):=List.getElem?_eq_getElem _
  unfold nth;rw [hz];exact List.getElem_mem _
theorem vM {α:Type} {l:List α} {n:Nat} (h:((l.length:Int) != (n:Int))=false):l.length=n:=by simp at h;omega
theorem xP (N:Nat) (a:Int):ng N a=some (iE a 0 4):=by unfold ng;rw [oF];rfl
theorem uR (N:Nat) (a:Int):ma N a=some (iE a 0 4):=by unfold ma;rw [nB];rfl
def jl (t:List ir) (i:Int):Bool:=iE i 0 4&&(nth t i).live
def up (t:List ir) (i:Int):Int:=(nth t i).parent
def leads (t:List ir):Nat→Int→Bool
  | 0,_=>false
  | n+1,i=>(i==0) || (jl t i&&leads t n (up t i))
def jM (t:List ir):Nat→Int→Int
  | 0,a=>a
  | n+1,a=>if a > 0 then jM t n (up t a) else a
theorem uU (N:Nat) {t:List ir} (h:t.length=5) (i:Int):m7 N t i=some (jl t i):=by
  unfold m7 jl
  rw [xP,Option.bind_some]
  cases hi:iE i 0 4
  · rfl
  · simp only [cond_true,zN hi (by omega) (show (4:Int)<(t.length:Int) by omega),Option.bind_some,Bool.true_and]
theorem Ln {k:Nat} (h:k<(List.replicate 5 ()).length):k<5∧decide ((k:Int)<5)=true:=by
  have h:k<5:=by simpa using h
  exact ⟨h,by simp;omega⟩
theorem JO {k n:Nat} {N:Nat} (hN:im≤N) (hn:n<16777216):(List.replicate n ()).length<N:=by
  have:16777216≤N:=hN
  simp;omega
theorem Gm {N:Nat} (hN:im≤N) {t:List ir} (h:t.length=5) (i:Int):rF N t i=some (leads t 5 i):=by
  unfold rF
  rw [show ((i,0):Int×Int)=(fun (k:Nat) (a:Int)=>(a,(k:Int))) 0 i from rfl,
    mP (List.replicate 5 ()) (fun (k:Nat) (a:Int)=>(a,(k:Int))) (fun _ a _=>if a==0 then .inr (.inr true) else if jl t a then .inl (up t a) else .inr (.inr false)) (fun a=>.inl (a,5)) (fun _ _=>True) ?_ ?_ (JO (k:=0) hN (by decide)) trivial]
  · have key:∀ (n k:Nat) (a:Int),Sum.elim (fun _=>some false) (fun r20=>some r20) (l6 (ρ:=(Int×Int)⊕Bool) (fun (_:Nat) a (_:Unit)=>if a==0 then .inr (.inr true) else if jl t a then .inl (up t a) else .inr (.inr false)) (fun a=>.inl (a,5)) k a (List.replicate n ()))=some (leads t n a):=by
      intro n
      induction n with
      | zero=>intro k a;rfl
      | succ n ih =>
        intro k a
        rw [List.replicate_succ]
        unfold l6 leads
        cases h0:(a==0)
        · cases h1:jl t a
          · rfl
          · simpa using ih (k+1) (up t a)
        · rfl
    exact key 5 0 i
  · intro k a y hy hk _
    obtain ⟨h5,hd⟩:=Ln hk
    refine ⟨?_,fun _ _=>trivial⟩
    simp only [hd,cond_true,uU N h,Option.bind_some]
    cases h0:(a==0)
    · cases h1:jl t a
      · rfl
      · have hin:iE a 0 4=true:=by unfold jl at h1;simp at h1;exact h1.1
        simp only [zN hin (by omega) (show (4:Int)<(t.length:Int) by omega),jm (show k<im from Nat.lt_trans h5 (by decide)),Option.bind_some]
        rfl
    · rfl
  · intro a _
    rfl
def vl:ir:=ir.mk false 0 (ig.mk 0 0 0)
def oS (t:List ir) (k:Nat) (r:ir):Bool:=if r.live then iY r.iL&&leads t 5 (k:Int) else decide (r=vl)
def ju (s:ig) (t:List ir):ig:=t.foldl (fun s r=>if r.live then iV s r.iL else s) s
def j8 (t:List ir):Bool:=!((t.length:Int) != 5)&&((nth t 0).live&&(!((nth t 0).parent != (-1))&&(allI (oS t) 0 t&&iY (ju ⟨0,0,0⟩ t))))
theorem tB {N:Nat} (hN:im≤N) {t:List ir}:mG N t=some (j8 t):=by
  unfold mG j8
  cases h5:((t.length:Int) != 5)
  · have hl:t.length=5:=vM (n:=5) h5
    have hB:t.length<im:=by rw [hl];decide
    rw [jC (l:=t) (i:=0) (by omega) (by omega)]
    simp only [cond_false,Option.bind_some,lN,Bool.not_false,Bool.true_and]
    cases h1:(nth t 0).live
    · rfl
    cases h2:((nth t 0).parent != (-1))
    · simp only [Bool.not_true,Bool.or_self,cond_false,Bool.true_and,Bool.not_false]
      rw [show ((0:Int),(0:Int),(0:Int),(0:Int))=(fun (k:Nat) (s:ig)=>((k:Int),s.bh,s.ib,s.ik)) 0 ⟨0,0,0⟩ from rfl,
        mP t (fun (k:Nat) (s:ig)=>((k:Int),s.bh,s.ib,s.ik)) (fun k s r=>if oS t k r then .inl (if r.live then iV s r.iL else s) else .inr (.inr false)) (fun s=>.inl ((t.length:Int),s.bh,s.ib,s.ik)) (fun _ _=>True) ?_ ?_ (Nat.lt_of_lt_of_le hB hN) trivial]
      · simp only [Option.bind_some,su]
        have key:∀ (l:List ir) (k:Nat) (s:ig),Sum.elim (fun (o48:Int×Int×Int×Int)=>some (iY (ig.mk o48.2.1 o48.2.2.1 o48.2.2.2))) (fun r53=>some r53) (l6 (fun k s r=>if oS t k r then .inl (if r.live then iV s r.iL else s) else .inr (.inr false)) (fun s=>.inl ((t.length:Int),s.bh,s.ib,s.ik)) k s l)=some (allI (oS t) k l&&iY (ju s l)):=by
          intro l
          induction l with
          | nil=>intro k s;rfl
          | cons r l ih =>
            intro k s
            unfold l6 allI
            cases hp:oS t k r
            · rfl
            · simpa [ju] using ih (k+1) (if r.live then iV s r.iL else s)
        exact key t 0 _
      · intro k s r hy hk _
        refine ⟨?_,fun _ _=>trivial⟩
        simp only [jh hk,cond_true,iO,hy,Option.bind_some,su,Gm hN hl,tL,lN,jm (Nat.lt_trans hk hB)]
        unfold oS
        cases hlv:r.live
        · show (bif !decide (r=vl) then _ else _)=_
          cases decide (r=vl) <;> rfl
        · cases iY r.iL <;> cases leads t 5 (k:Int) <;> rfl
      · intro s _
        simp only [jg,cond_false]
    · rfl
  · rfl
def p1 (t:List ir) (k:Nat) (r:ir):Bool:=!((!r.live&&!decide (r=vl)) || !iY r.iL)&&!(decide ((k:Int) > 0)&&(r.live&&(!iE r.parent 0 4 || (r.parent==(k:Int) || !(nth t r.parent).live))))
def p2 (t:List ir) (k:Nat) (r:ir):Bool:=!(r.live&&(jM t 5 (k:Int) != 0))
def Good (t:List ir):Prop:=∀ i:Int,0<i→i≤4→(nth t i).live=true→0≤up t i∧up t i≤4∧up t i ≠ i∧(nth t (up t i)).live=true
theorem ED {t:List ir} (hl:t.length=5) (h:allI (p1 t) 0 t=true):Good t:=by
  intro i h0 h4 hlv
  rw [mB] at h
  have hz:t[i.toNat]?=some (nth t i):=by
    have:=jC (l:=t) (i:=i) (by omega) (by omega)
    unfold idx at this
    rwa [if_pos (by omega)] at this
  have:=h _ _ hz
  have e:((0+i.toNat:Nat):Int)=i:=by omega
  unfold p1 at this
  rw [e] at this
  unfold up
  simp [hlv,iE] at this
  rcases this.2 with q | q
  · omega
  · exact ⟨q.1.1,q.1.2,q.2.1,q.2.2⟩
theorem AV {t:List ir} (hg:Good t):∀ (n:Nat) (a:Int),0≤a→a≤4→(nth t a).live=true→0≤jM t n a∧jM t n a≤4∧(nth t (jM t n a)).live=true
  | 0,a,h0,h4,hlv=>⟨h0,h4,hlv⟩
  | n+1,a,h0,h4,hlv=>by
    unfold jM
    by_cases ha:a > 0
    · rw [if_pos ha]
      obtain ⟨g1,g2,_,g4⟩:=hg a ha h4 hlv
      exact AV hg n _ g1 g2 g4
    · rw [if_neg ha];exact ⟨h0,h4,hlv⟩
theorem ud (t:List ir):∀ (m n:Nat) (a:Int),jM t (m+n) a=jM t n (jM t m a)
  | 0,n,a=>by simp [jM]
  | m+1,n,a=>by
    rw [show m+1+n=(m+n)+1 by omega]
    show (if a > 0 then jM t (m+n) (up t a) else a)=jM t n (if a > 0 then jM t m (up t a) else a)
    by_cases ha:a > 0
    · rw [if_pos ha,if_pos ha,ud t m n]
    · rw [if_neg ha,if_neg ha]
      cases n <;> simp [jM,ha]
theorem zP (t:List ir) (n:Nat):jM t n 0=0:=by cases n <;> simp [jM]
theorem vK {t:List ir} (hg:Good t):∀ (n:Nat) (a:Int),0≤a→a≤4→(nth t a).live=true→leads t (n+1) a=(jM t n a==0)
  | 0,a,h0,h4,hlv=>by simp [leads,jM]
  | n+1,a,h0,h4,hlv=>by
    rw [show leads t (n+1+1) a=((a==0) || (jl t a&&leads t (n+1) (up t a))) from rfl]
    unfold jM
    by_cases ha:a=0
    · subst ha;simp
    · have hp:a > 0:=by omega
      obtain ⟨g1,g2,_,g4⟩:=hg a hp h4 hlv
      rw [if_pos hp,vK hg n _ g1 g2 g4]
      have:jl t a=true:=by simp [jl,i7,hlv];omega
      have h0':(a==0)=false:=by simpa using ha
      rw [this,h0'];rfl
theorem HW {t:List ir} (hg:Good t) {a:Int} (h0:0≤a) (h4:a≤4) (hlv:(nth t a).live=true) (h:jM t 5 a=0):jM t 4 a=0:=by
  have key:∀ (i j:Nat),i+j≤5→jM t i a=jM t (i+j) a→jM t (5 - j) a=0:=by
    intro i j hij e
    have h1:jM t (5 - j) a=jM t (5 - j - i) (jM t i a):=by rw [← ud];congr 1;omega
    have h2:jM t 5 a=jM t (5 - j - i) (jM t (i+j) a):=by rw [← ud];congr 1;omega
    rw [h1,e, ← h2,h]
  have mono:∀ (i j:Nat),jM t i a=0→jM t (i+j) a=0:=by
    intro i j e
    rw [ud,e,zP]
  rcases Decidable.em (jM t 4 a=0) with q | q
  · exact q
  exfalso
  have nz:∀ i,i≤4→jM t i a ≠ 0:=fun i hi e=>q (by have:=mono i (4 - i) e;rwa [show i+(4 - i)=4 by omega] at this)
  have xk:∀ i,i≤4→1≤jM t i a∧jM t i a≤4:=fun i hi=>by
    obtain ⟨r1,r2,_⟩:=AV hg i a h0 h4 hlv
    have:=nz i hi
    omega
  have ne:∀ (i j:Nat),0<j→i+j≤4→jM t i a ≠ jM t (i+j) a:=fun i j hj hij e=>nz (5 - j) (by omega) (key i j (by omega) e)
  have r0:=xk 0 (by omega)
  have r1:=xk 1 (by omega)
  have r2:=xk 2 (by omega)
  have r3:=xk 3 (by omega)
  have r4:=xk 4 (by omega)
  have n01:=ne 0 1 (by omega) (by omega)
  have n02:=ne 0 2 (by omega) (by omega)
  have n03:=ne 0 3 (by omega) (by omega)
  have n04:=ne 0 4 (by omega) (by omega)
  have n12:=ne 1 1 (by omega) (by omega)
  have n13:=ne 1 2 (by omega) (by omega)
  have n14:=ne 1 3 (by omega) (by omega)
  have n23:=ne 2 1 (by omega) (by omega)
  have n24:=ne 2 2 (by omega) (by omega)
  have n34:=ne 3 1 (by omega) (by omega)
  simp only [Nat.zero_add,Nat.reduceAdd] at *
  generalize jM t 0 a=c0 at *
  generalize jM t 1 a=c1 at *
  generalize jM t 2 a=c2 at *
  generalize jM t 3 a=c3 at *
  generalize jM t 4 a=c4 at *
  clear key mono nz xk ne
  omega
theorem yZ {t:List ir} {a:Int} (ha:a ≠ 0) (hu:up t a=a):∀ n,leads t n a=false
  | 0=>rfl
  | n+1=>by
    unfold leads
    rw [hu,yZ ha hu n]
    simp [ha]
theorem Hg {t:List ir} (hl:t.length=5) (h0:(nth t 0).live=true):(allI (p1 t) 0 t&&allI (p2 t) 0 t)=allI (oS t) 0 t:=by
  have hget:∀ (i:Nat) (r:ir),t[i]?=some r→(i:Int)≤4∧nth t (i:Int)=r:=fun i r h=>⟨by have:=jv h;omega,vW h⟩
  rw [Bool.eq_iff_iff,Bool.and_eq_true]
  constructor
  · rintro ⟨h1,h2⟩
    have hg:=ED hl h1
    rw [mB] at h1 h2 ⊢
    intro i r hr
    obtain ⟨i4,hn⟩:=hget i r hr
    have q1:=h1 i r hr
    have q2:=h2 i r hr
    simp only [Nat.zero_add] at q1 q2 ⊢
    unfold p1 at q1
    unfold p2 at q2
    unfold oS
    cases hlv:r.live
    · simp [hlv] at q1
      simp [q1.1]
    · simp [hlv] at q1 q2
      have hlv':(nth t (i:Int)).live=true:=by rw [hn];exact hlv
      have:=HW hg (by omega) i4 hlv' q2
      simp only [if_true,Bool.and_eq_true]
      refine ⟨q1.1,?_⟩
      rw [vK hg 4 _ (by omega) i4 hlv',this];rfl
  · intro h
    rw [mB] at h
    have hp:∀ (i:Int),0≤i→i≤4→(nth t i).live=true→iY (nth t i).iL=true∧leads t 5 i=true:=by
      intro i hi hi4 hlv
      have hz:t[i.toNat]?=some (nth t i):=by
        have:=jC (l:=t) (i:=i) (by omega) (by omega)
        unfold idx at this
        rwa [if_pos (by omega)] at this
      have:=h _ _ hz
      unfold oS at this
      rw [if_pos hlv] at this
      have e:((0+i.toNat:Nat):Int)=i:=by omega
      rw [e] at this
      simpa using this
    have hg:Good t:=by
      intro i hi hi4 hlv
      obtain ⟨_,q⟩:=hp i (by omega) hi4 hlv
      have hne:up t i ≠ i:=fun e=>by rw [yZ (by omega) e] at q;cases q
      have hi0:(i==0)=false:=by simp;omega
      rw [show leads t 5 i=((i==0) || (jl t i&&leads t 4 (up t i))) from rfl,hi0] at q
      simp only [Bool.false_or,Bool.and_eq_true] at q
      rw [show leads t 4 (up t i)=((up t i==0) || (jl t (up t i)&&leads t 3 (up t (up t i)))) from rfl] at q
      rcases Decidable.em (up t i=0) with e | e
      · rw [e];exact ⟨by omega,by omega,by omega,h0⟩
      · have e':(up t i==0)=false:=by simpa using e
        rw [e'] at q
        simp only [Bool.false_or,Bool.and_eq_true] at q
        have:=q.2.1
        simp only [jl,Bool.and_eq_true,i7] at this
        exact ⟨this.1.1,this.1.2,hne,this.2⟩
    rw [mB,mB]
    refine ⟨fun i r hr=>?_,fun i r hr=>?_⟩
    · obtain ⟨i4,hn⟩:=hget i r hr
      have q:=h i r hr
      simp only [Nat.zero_add] at q ⊢
      unfold p1
      unfold oS at q
      cases hlv:r.live
      · simp [hlv] at q
        subst q
        simp;decide
      · simp [hlv] at q
        simp [q.1]
        by_cases hi:i=0
        · exact .inl hi
        · have:=hg (i:Int) (by omega) i4 (by rw [hn];exact hlv)
          unfold up at this
          rw [hn] at this
          exact .inr ⟨i7.2 ⟨this.1,this.2.1⟩,this.2.2.1,this.2.2.2⟩
    · obtain ⟨i4,hn⟩:=hget i r hr
      simp only [Nat.zero_add]
      unfold p2
      cases hlv:r.live
      · rfl
      · have hlv':(nth t (i:Int)).live=true:=by rw [hn];exact hlv
        obtain ⟨_,q⟩:=hp (i:Int) (by omega) i4 hlv'
        rw [vK hg 4 _ (by omega) i4 hlv'] at q
        have q:jM t 4 (i:Int)=0:=by simpa using q
        have:jM t 5 (i:Int)=0:=by rw [show 5=4+1 from rfl,ud,q,zP]
        simp [this]
theorem z9 {N:Nat} (hN:im≤N) {t:List ir} (hB:t.length<im):pP N t=some (ju ⟨0,0,0⟩ t):=by
  unfold pP ju
  rw [show ((0:Int),(0:Int),(0:Int),(0:Int))=(fun (k:Nat) (s:ig)=>((k:Int),s.bh,s.ib,s.ik)) 0 ⟨0,0,0⟩ from rfl,
    kK t (fun (k:Nat) (s:ig)=>((k:Int),s.bh,s.ib,s.ik)) (fun _ s r=>if r.live then iV s r.iL else s) (fun s=>((t.length:Int),s.bh,s.ib,s.ik)) (fun _ _=>True) ?_ ?_ (Nat.lt_of_lt_of_le hB hN) trivial,lA]
  · rfl
  · intro k s r hy hk _
    refine ⟨?_,trivial⟩
    simp only [jh hk,cond_true,iO,hy,Option.bind_some,jm (Nat.lt_trans hk hB)]
    cases r.live <;> rfl
  · intro s _
    simp only [jg,cond_false]
theorem F9 {N:Nat} (hN:im≤N) {t:List ir} (hl:t.length=5) (hg:Good t) {k:Nat} {r:ir} (hr:t[k]?=some r) :
    ∃ n,iter (fun (s72:Int×Int)=>((bif (decide (s72.2<5)) then ((idx t (k:Int)).bind fun y77=>bif y77.live then (some (decide (s72.1 > 0))) else (some false)) else (some false):Option Bool).bind fun j74=>bif j74 then ((idx t s72.1).bind fun y89=>some (.inl (y89.parent,IntKind.i64.wrap (s72.2+1)))) else (some (.inr (s72.1,s72.2))):Option ((Int×Int)⊕(Int×Int)))) N ((k:Int),0)=some (if r.live then jM t 5 (k:Int) else (k:Int),n):=by
  have hk:=jv hr
  rw [show (((k:Int),0):Int×Int)=(fun (n:Nat) (a:Int)=>(a,(n:Int))) 0 (k:Int) from rfl,
    mP (List.replicate 5 ()) (fun (n:Nat) (a:Int)=>(a,(n:Int))) (fun n a _=>if r.live&&decide (a > 0) then .inl (up t a) else .inr (a,(n:Int))) (fun a=>(a,5)) (fun _ a=>r.live=true→0≤a∧a≤4∧(nth t a).live=true) ?_ ?_ (JO (k:=0) hN (by decide)) (fun h=>⟨by omega,by omega,by rw [vW hr];exact h⟩)]
  · have key:∀ (n j:Nat) (a:Int),(l6 (ρ:=Int×Int) (fun (n:Nat) a (_:Unit)=>if r.live&&decide (a > 0) then .inl (up t a) else .inr (a,(n:Int))) (fun a=>(a,5)) j a (List.replicate n ())).1=if r.live then jM t n a else a:=by
      intro n
      induction n with
      | zero=>intro j a;simp [l6,jM]
      | succ n ih =>
        intro j a
        rw [List.replicate_succ]
        unfold l6 jM
        cases hlv:r.live
        · rfl
        · have ih:=ih (j+1) (up t a)
          rw [hlv] at ih
          by_cases ha:a > 0
          · simpa [ha] using ih
          · simp [ha]
    have:=key 5 0 (k:Int)
    exact ⟨_,congrArg some (Prod.ext this rfl)⟩
  · intro n a y hy hn hI
    obtain ⟨h5,hd⟩:=Ln hn
    simp only [hd,cond_true,iO,hr,Option.bind_some]
    cases hlv:r.live
    · exact ⟨rfl,fun t' h=>by simp at h⟩
    · obtain ⟨i1,i2,i3⟩:=hI hlv
      by_cases ha:a > 0
      · have hd2:decide (a > 0)=true:=by simpa using ha
        simp only [cond_true,hd2,Option.bind_some,jC (l:=t) (i:=a) i1 (by omega),jm (show n<im from Nat.lt_trans h5 (by decide)),Bool.and_self,if_true]
        refine ⟨rfl,fun t' h _=>?_⟩
        cases h
        obtain ⟨g1,g2,_,g4⟩:=hg a ha i2 i3
        exact ⟨g1,g2,g4⟩
      · have hd2:decide (a > 0)=false:=by simpa using ha
        simp only [cond_true,hd2,Option.bind_some,cond_false]
        exact ⟨rfl,fun t' h=>by simp at h⟩
  · intro a _
    rfl
theorem wE {N:Nat} (hN:im≤N) {t:List ir}:nN N t=some (j8 t):=by
  unfold nN j8
  cases h5:((t.length:Int) != 5)
  · have hl:t.length=5:=vM (n:=5) h5
    have hB:t.length<im:=by rw [hl];decide
    rw [jC (l:=t) (i:=0) (by omega) (by omega)]
    simp only [cond_false,Option.bind_some,lN,Bool.not_false,Bool.true_and]
    cases h1:(nth t 0).live
    · rfl
    cases h2:((nth t 0).parent != (-1))
    · simp only [Bool.not_true,Bool.or_self,cond_false,Bool.true_and,Bool.not_false]
      rw [kn t (p1 t) (.inl (t.length:Int)) (.inr false) (Nat.lt_of_lt_of_le hB hN), ← Hg hl h1]
      · simp only [Option.bind_some]
        cases hp:allI (p1 t) 0 t
        · rfl
        · have hg:=ED hl hp
          simp only [if_true,Sum.elim_inl,Bool.true_and]
          rw [kn t (p2 t) (.inl (t.length:Int)) (.inr false) (Nat.lt_of_lt_of_le hB hN)]
          · simp only [Option.bind_some,z9 hN hB,qX]
            cases allI (p2 t) 0 t <;> rfl
          · intro k r hy hk
            obtain ⟨n,hn⟩:=F9 hN hl hg hy
            simp only [jh hk,cond_true]
            rw [hn]
            simp only [iO,hy,Option.bind_some,jm (Nat.lt_trans hk hB)]
            unfold p2
            cases hlv:r.live
            · rfl
            · simp only [cond_true,Option.bind_some,if_true,Bool.true_and]
              cases (jM t 5 (k:Int) != 0) <;> rfl
          · simp only [jg,cond_false]
      · intro k r hy hk
        simp only [jh hk,cond_true,iO,hy,Option.bind_some,qX,uR,lN,jm (Nat.lt_trans hk hB)]
        unfold p1
        rw [show ir.mk false 0 (ig.mk 0 0 0)=vl from rfl]
        cases hin:iE r.parent 0 4
        · cases r.live <;> cases decide (r=vl) <;> cases iY r.iL <;> cases decide ((k:Int) > 0) <;> rfl
        · rw [zN hin (by omega) (show (4:Int)<(t.length:Int) by omega)]
          simp only [Option.bind_some]
          cases r.live <;> cases decide (r=vl) <;> cases iY r.iL <;> cases decide ((k:Int) > 0) <;> cases (r.parent==(k:Int)) <;> cases (nth t r.parent).live <;> rfl
      · simp only [jg,cond_false]
    · rfl
  · rfl
end Go.Kx
/- Plain laws: things, arenas, heaps, ij, parts: what is right. No program in sight. -/
namespace Go.Kx
open Go
set_option linter.unusedVariables false
set_option linter.unusedSimpArgs false
set_option maxRecDepth 10000
theorem qx {α:Type} (p:Bool) (a b:α):(bif p then some a else some b)=some (bif p then a else b):=by cases p <;> rfl
theorem yQ {ρ τ β:Type} (c:Bool) (a:ρ) (r:τ) (f:ρ→Option β) (g:τ→Option β):Sum.elim f g (if c then .inl a else .inr r)=if c then f a else g r:=by cases c <;> rfl
theorem Cx (N:Nat) (a:Int):qS N a=some (iE a 0 2):=by unfold qS;rw [oF];rfl
theorem yS (N:Nat) (a:Int):oX N a=some (iE a 0 9):=by unfold oX;rw [oF];rfl
theorem wL (N:Nat) (a:Int):lW N a=some (iE a 0 1000000):=by unfold lW;rw [oF];rfl
theorem qR (N:Nat) (a:Int):lR N a=some (iE a 0 29999):=by unfold lR;rw [oF];rfl
theorem qU (N:Nat) (a:Int):kZ N a=some (iE a 0 29999):=by unfold kZ;rw [nB];rfl
theorem sj (N:Nat) (a:Int):lY N a=some (iE a 0 9):=by unfold lY;rw [nB];rfl
def wv (m:jI):Bool:=!(bif (m.src != (-1)) then (!iE m.src 0 29999 || !iE m.n 0 999) else !iE m.n 0 999)
def np (o:cd):Bool:=o.il.all (fun y=>iE y (-1) 9)&&(o.data.all (fun y=>iE y 0 999)&&(o.queue.all wv&&(((o.il.length:Int)==2)&&(((o.data.length:Int)==(bif o.kind==2 then o.bh else 0))&&decide ((o.queue.length:Int)≤(bif o.kind==3 then 2 else 0))))))
theorem Gr {N:Nat} (hN:im≤N) {o:cd} (ho:iz o<im):rJ N o=some (np o):=by
  obtain ⟨h1,h2,h3⟩:=xW ho
  unfold rJ np
  rw [kn o.il (fun _ y=>iE y (-1) 9) (.inl (o.il.length:Int)) (.inr false) (Nat.lt_of_lt_of_le h1 hN),kV,Option.bind_some]
  · cases o.il.all fun y=>iE y (-1) 9
    · rfl
    simp only [if_true,Sum.elim_inl,Bool.true_and]
    rw [kn o.data (fun _ y=>iE y 0 999) (.inl (o.data.length:Int)) (.inr false) (Nat.lt_of_lt_of_le h2 hN),kV,Option.bind_some]
    · cases o.data.all fun y=>iE y 0 999
      · rfl
      simp only [if_true,Sum.elim_inl,Bool.true_and]
      rw [kn o.queue (fun _ y=>wv y) (.inl (o.queue.length:Int)) (.inr false) (Nat.lt_of_lt_of_le h3 hN),kV,Option.bind_some]
      · cases o.queue.all wv
        · rfl
        simp only [if_true,Sum.elim_inl,Bool.true_and,qx,Option.bind_some]
        congr 1
        cases ((o.il.length:Int)==2) <;> cases ((o.data.length:Int)==(bif o.kind==2 then o.bh else 0)) <;> simp
      · intro k y hy hk
        simp only [jh hk,cond_true,iO,hy,Option.bind_some,oF,qR,lN,qx,jm (Nat.lt_trans hk h3)]
        unfold wv
        cases (y.src != (-1)) <;> cases iE y.src 0 29999 <;> cases iE y.n 0 999 <;> rfl
      · simp only [jg,cond_false]
    · intro k y hy hk
      simp only [jh hk,cond_true,iO,hy,Option.bind_some,oF,jm (Nat.lt_trans hk h2)]
      cases iE y 0 999 <;> rfl
    · simp only [jg,cond_false]
  · intro k y hy hk
    simp only [jh hk,cond_true,iO,hy,Option.bind_some,oF,jm (Nat.lt_trans hk h1)]
    cases iE y (-1) 9 <;> rfl
  · simp only [jg,cond_false]
def blank (g:Int):cd:=cd.mk g 0 0 0 0 0 0 0 0 false [] [] []
def jt (o:cd):Bool:=iE o.gen 0 999&&(iE o.kind 0 4&&(bif o.kind==0 then decide (o=blank o.gen) else
  iE o.box (-1) 9&&(iE o.res 0 4&&(iE o.iU 0 1000000&&(iE o.bh 0 8&&(np o&&(bif o.kind != 4 then (o.wait==0&&(o.iW==0&&o.iR==0)) else
    (o.wait==0 || iE (IntKind.i64.wrap (o.wait - 1)) 0 29999)&&(iE o.iW (-1) 999&&iE o.iR 0 1000000))))))))
theorem Ed {N:Nat} (hN:im≤N) {o:cd} (ho:iz o<im):sI N o=some (jt o):=by
  unfold sI jt
  simp only [oF,xP,wL,qR,Gr hN ho,Gv hN ho,Option.bind_some,lN,lK,qx]
  rw [show cd.mk o.gen 0 0 0 0 0 0 0 0 false [] [] []=blank o.gen from rfl]
  congr 1
  simp only [Bool.cond_true_left,Bool.cond_false_left,Bool.cond_true_right,Bool.cond_false_right,Bool.not_or,Bool.not_not,Bool.and_assoc]
  cases o.wait==0 <;> rfl
def mO (o:cd):Prop:=-9223372036854775808≤o.wait
theorem Hu {n:Int} (h:-9223372036854775808≤n) (h0:n<0):iE (IntKind.i64.wrap (n - 1)) 0 29999=false:=by
  rcases Decidable.em (n=-9223372036854775808) with e | e
  · subst e;decide
  · rw [iI (by omega) (by omega)]
    simp [iE];omega
def zt (o:cd):Bool:=bif o.kind != 4 then (o.wait==0&&(o.iW==0&&o.iR==0)) else
    (o.wait==0 || iE (IntKind.i64.wrap (o.wait - 1)) 0 29999)&&(iE o.iW (-1) 999&&iE o.iR 0 1000000)
theorem Kn {o : cd} (hw : mO o) (hr : iE o.iR 0 1000000 = true) : (bif o.kind != 4 then bif o.wait != 0 then true else bif o.iW != 0 then true else bif o.iR != 0 then true else bif o.kind == 4 then
      bif decide (o.wait < 0) then true else bif decide (o.wait > 0) then !iE (IntKind.i64.wrap (o.wait - 1)) 0 29999 || !iE o.iW (-1) 999 else !iE o.iW (-1) 999 else false
    else bif o.kind == 4 then bif decide (o.wait < 0) then true else bif decide (o.wait > 0) then !iE (IntKind.i64.wrap (o.wait - 1)) 0 29999 || !iE o.iW (-1) 999 else !iE o.iW (-1) 999 else false) = !zt o := by
  unfold zt
  simp only [bne, hr]
  cases o.kind == 4
  · simp only [Bool.not_false, cond_true, cond_false]
    cases o.wait == 0 <;> cases o.iW == 0 <;> cases o.iR == 0 <;> rfl
  · simp only [Bool.not_true, cond_true, cond_false]
    rcases Int.lt_trichotomy o.wait 0 with h | h | h
    · have e1 : decide (o.wait < 0) = true := by simpa using h
      have e2 : (o.wait == 0) = false := by simp; omega
      rw [e1, e2, Hu hw h]; rfl
    · simp only [h]
      cases iE o.iW (-1) 999 <;> rfl
    · have e1 : decide (o.wait < 0) = false := by simp; omega
      have e2 : (o.wait == 0) = false := by simp; omega
      have e3 : decide (o.wait > 0) = true := by simpa using h
      rw [e1, e2, e3]
      cases iE (IntKind.i64.wrap (o.wait - 1)) 0 29999 <;> cases iE o.iW (-1) 999 <;> rfl
theorem KI (o:cd):(bif (o.data.length:Int) != 0 then bif o.kind != 2 then true else bif (o.data.length:Int) != o.bh then true else bif o.kind==2 then (o.data.length:Int) != o.bh else false
    else bif o.kind==2 then (o.data.length:Int) != o.bh else false)=!((o.data.length:Int)==(bif o.kind==2 then o.bh else 0)):=by
  simp only [bne]
  cases o.kind==2 <;> cases h:((o.data.length:Int)==0) <;> cases h2:((o.data.length:Int)==o.bh) <;> simp [h,h2]
theorem Jw (o:cd):(bif decide ((o.queue.length:Int) > 2) then true else bif decide ((o.queue.length:Int) > 0) then o.kind != 3 else false)=!decide ((o.queue.length:Int)≤(bif o.kind==3 then 2 else 0)):=by
  simp only [bne]
  cases o.kind==3
  · simp only [cond_false]
    rcases Nat.lt_trichotomy o.queue.length 0 with h | h | h
    · omega
    · simp [h]
    · rw [decide_eq_true (show (o.queue.length:Int) > 0 by omega),decide_eq_false (show ¬ ((o.queue.length:Int)≤0) by omega)]
      cases decide ((o.queue.length:Int) > 2) <;> rfl
  · simp only [cond_true]
    rcases Nat.lt_or_ge 2 o.queue.length with h | h
    · rw [decide_eq_true (show (o.queue.length:Int) > 2 by omega),decide_eq_false (show ¬ ((o.queue.length:Int)≤2) by omega)];rfl
    · rw [decide_eq_false (show ¬ ((o.queue.length:Int) > 2) by omega),decide_eq_true (show (o.queue.length:Int)≤2 by omega)]
      cases decide ((o.queue.length:Int) > 0) <;> rfl
theorem D0 {N:Nat} (hN:im≤N) {o:cd} (ho:iz o<im) (hw:mO o):sx N o=some (jt o):=by
  obtain ⟨h1,h2,h3⟩:=xW ho
  unfold sx jt
  rw [nB,Option.bind_some]
  cases hg:iE o.gen 0 999
  · rfl
  simp only [Bool.not_true,cond_false,Bool.true_and]
  cases hk0:o.kind==0
  · simp only [cond_false,nB,uR,Option.bind_some,lN]
    have hk0':o.kind ≠ 0:=by simpa using hk0
    cases hA:(!iE o.kind 1 4 || (!iE o.box (-1) 9 || (!iE o.res 0 4 || (!iE o.iU 0 1000000 || (!iE o.bh 0 8 || ((o.il.length:Int) != 2 || !iE o.iR 0 1000000))))))
    · simp only [Bool.or_eq_false_iff,Bool.not_eq_false',bne_eq_false_iff_eq] at hA
      obtain ⟨a1,a2,a3,a4,a5,a6,a7⟩:=hA
      have a1':iE o.kind 0 4=true:=by rw [i7] at a1 ⊢;omega
      have hl2:o.il.length=2:=by omega
      simp only [cond_false,a1',a2,a3,a4,a5,Bool.true_and]
      rw [kn o.il (fun _ y=>iE y (-1) 9) (.inl (2:Int)) (.inr false) (Nat.lt_of_lt_of_le h1 hN),kV,Option.bind_some,yQ]
      · unfold np
        cases hL:o.il.all fun y=>iE y (-1) 9
        · rfl
        have e6:((o.il.length:Int)==2)=true:=by simp [a6]
        simp only [if_true,Bool.true_and,e6]
        simp only [qU,Option.bind_some,qx]
        rw [Kn hw a7,KI o]
        rw [show (bif o.kind != 4 then (o.wait==0&&(o.iW==0&&o.iR==0)) else (o.wait==0 || iE (IntKind.i64.wrap (o.wait - 1)) 0 29999)&&(iE o.iW (-1) 999&&iE o.iR 0 1000000))=zt o from rfl]
        cases zt o
        · simp
        cases ((o.data.length:Int)==(bif o.kind==2 then o.bh else 0))
        · simp
        simp only [Bool.not_true,cond_false,Bool.and_true,Bool.true_and]
        rw [kn o.data (fun _ y=>iE y 0 999) (.inl (o.data.length:Int)) (.inr false) (Nat.lt_of_lt_of_le h2 hN),kV,Option.bind_some,yQ,Jw o]
        · cases o.data.all fun y=>iE y 0 999
          · rfl
          simp only [if_true,Bool.true_and]
          cases decide ((o.queue.length:Int)≤(bif o.kind==3 then 2 else 0))
          · simp
          simp only [Bool.not_true,cond_false,Bool.and_true]
          rw [kn o.queue (fun _ y=>wv y) (.inl (o.queue.length:Int)) (.inr false) (Nat.lt_of_lt_of_le h3 hN),kV,Option.bind_some,yQ]
          · cases o.queue.all wv <;> rfl
          · intro k y hy hk
            simp only [jh hk,cond_true,iO,hy,Option.bind_some,jm (Nat.lt_trans hk h3)]
            unfold wv
            cases (y.src != (-1)) <;> cases iE y.src 0 29999 <;> cases iE y.n 0 999 <;> rfl
          · simp only [jg,cond_false]
        · intro k y hy hk
          simp only [jh hk,cond_true,iO,hy,Option.bind_some,jm (Nat.lt_trans hk h2)]
          cases iE y 0 999 <;> rfl
        · simp only [jg,cond_false]
      · intro k y hy hk
        have hd:decide ((k:Int)<2)=true:=by simp;omega
        simp only [hd,cond_true,iO,hy,Option.bind_some,nB,jm (Nat.lt_trans hk h1)]
        cases iE y (-1) 9 <;> rfl
      · simp [hl2]
    · simp only [cond_true]
      congr 1
      symm
      rw [Bool.eq_false_iff]
      intro h
      simp only [np,Bool.and_eq_true,i7,beq_iff_eq] at h
      obtain ⟨b0,b1,b2,b3,b4,⟨_,_,_,b5,_,_⟩,b6⟩:=h
      have q1:iE o.kind 1 4=true:=by rw [i7];omega
      have q2:iE o.box (-1) 9=true:=by rw [i7];omega
      have q3:iE o.res 0 4=true:=by rw [i7];omega
      have q4:iE o.iU 0 1000000=true:=by rw [i7];omega
      have q5:iE o.bh 0 8=true:=by rw [i7];omega
      have q6:((o.il.length:Int) != 2)=false:=by simp [b5]
      have q7:iE o.iR 0 1000000=true:=by
        cases h4:o.kind != 4
        · rw [h4] at b6
          simp only [cond_false,Bool.and_eq_true] at b6
          exact b6.2.2
        · rw [h4] at b6
          simp only [cond_true,Bool.and_eq_true,beq_iff_eq] at b6
          rw [b6.2.2];decide
      simp [q1,q2,q3,q4,q5,q6,q7] at hA
  · have hk:o.kind=0:=by simpa using hk0
    simp only [cond_true,lK,Option.bind_some]
    congr 1
    rw [Bool.eq_iff_iff]
    obtain ⟨_,_,_,_,_,_,_,_,_,_,_,_,_⟩:=o
    simp only at hk
    subst hk
    simp [blank,iE]
end Go.Kx
/- Plain laws: arenas, heaps, ij, parts: what is right. No program in sight. -/
namespace Go.Kx
open Go
set_option linter.unusedVariables false
set_option linter.unusedSimpArgs false
set_option maxRecDepth 10000
theorem pL {o:cd} (h:jt o=true):o.il.length≤2∧∀ y,y ∈ o.il→-1≤y∧y≤9:=by
  unfold jt at h
  cases hk:o.kind==0
  · simp only [hk,cond_false,Bool.and_eq_true] at h
    obtain ⟨_,_,_,_,_,_,hl,_⟩:=h
    unfold np at hl
    simp only [Bool.and_eq_true,List.all_eq_true,i7,beq_iff_eq] at hl
    exact ⟨by omega,hl.1⟩
  · simp only [hk,cond_true,Bool.and_eq_true,decide_eq_true_eq] at h
    rw [h.2.2];simp [blank]
theorem oN {o:cd} (h:jt o=true) (hk:(o.kind != 0)=true):iE o.box (-1) 9=true∧iE o.res 0 4=true∧iE o.iU 0 1000000=true∧iE o.bh 0 8=true:=by
  unfold jt at h
  have hk:(o.kind==0)=false:=by simpa [bne] using hk
  simp only [hk,cond_false,Bool.and_eq_true] at h
  exact ⟨h.2.2.1,h.2.2.2.1,h.2.2.2.2.1,h.2.2.2.2.2.1⟩
def tY (l:List cd) (i:Int):Bool:=(nth l i).kind==0
def va (l:List cd) (o:cd):Bool:=o.il.all fun y=>!(decide (y ≥ 0)&&tY l y)
def tq (l:List cd) (k:Nat) (o:cd):Bool:=(jt o&&!(decide ((k:Int) > 0)&&(o.kind != 0&&(decide (o.box ≥ 0)&&tY l o.box))))&&va l o
def uN (l:List cd):Bool:=((nth l 0).kind != 1) || (((nth l 0).box != (-1)) || ((nth l 0).iU != 1000000))
def kI (l:List cd):Bool:=!((l.length:Int) != 10)&&(!uN l&&allI (tq l) 0 l)
theorem Bj {N:Nat} (hN:im≤N) {l:List cd} (hl:l.length=10) {o:cd} (ho:o.il.length≤2) (hr:∀ y,y ∈ o.il→-1≤y∧y≤9) :
    iter (fun (s75:Int)=>(bif (decide (s75<(o.il.length:Int))) then ((idx o.il s75).bind fun y96=>(bif (decide (y96 ≥ 0)) then ((idx l y96).bind fun y108=>some (y108.kind==0)) else (some false):Option Bool).bind fun j105=>bif j105 then (some (.inr (.inr false))) else (some (.inl (IntKind.i64.wrap (s75+1))))) else (some (.inr (.inl s75))):Option (Int⊕(Int⊕Bool)))) N 0=some (if va l o then .inl (o.il.length:Int) else .inr false):=by
  have hB:o.il.length<im:=Nat.lt_of_le_of_lt ho (by decide)
  rw [kn o.il (fun _ y=>!(decide (y ≥ 0)&&tY l y)) (.inl (o.il.length:Int)) (.inr false) (Nat.lt_of_lt_of_le hB hN),kV]
  · rfl
  · intro k y hy hk
    have hm:=hr y (List.mem_of_getElem? hy)
    simp only [jh hk,cond_true,iO,hy,Option.bind_some,jm (Nat.lt_trans hk hB)]
    cases h0:decide (y ≥ 0)
    · rfl
    · have h0:y ≥ 0:=by simpa using h0
      simp only [cond_true,jC (l:=l) (i:=y) h0 (by omega),Option.bind_some,Bool.true_and]
      unfold tY
      cases (nth l y).kind==0 <;> rfl
  · simp only [jg,cond_false]
theorem EG {l:List cd} (hl:l.length=10) {o:cd} (ho:jt o=true):(bif (decide (o.box ≥ 0)) then ((idx l o.box).bind fun y58=>some (y58.kind==0)) else (some false):Option Bool)=some (decide (o.box ≥ 0)&&tY l o.box)∨(o.kind != 0)=false:=by
  cases hk:o.kind != 0
  · exact .inr rfl
  · left
    obtain ⟨hb,_⟩:=oN ho hk
    rw [i7] at hb
    cases h0:decide (o.box ≥ 0)
    · rfl
    · have h0:o.box ≥ 0:=by simpa using h0
      simp only [cond_true,jC (l:=l) (i:=o.box) h0 (by omega),Option.bind_some,Bool.true_and];rfl
theorem xR {N:Nat} (hN:im≤N) {l:List cd} (hb:jo iz l<im):oc N l=some (kI l):=by
  have hlB:=lD hb
  unfold oc kI
  cases h10:((l.length:Int) != 10)
  · have hl:l.length=10:=vM (n:=10) h10
    rw [jC (l:=l) (i:=0) (by omega) (by omega)]
    simp only [cond_false,Option.bind_some,lN,Bool.not_false,Bool.true_and]
    rw [show ((nth l 0).kind != 1 || ((nth l 0).box != (-1) || (nth l 0).iU != 1000000))=uN l from rfl]
    cases uN l
    · simp only [cond_false,Bool.not_false,Bool.true_and]
      rw [kn l (tq l) (.inl (l.length:Int)) (.inr false) (Nat.lt_of_lt_of_le hlB hN)]
      · simp only [Option.bind_some];cases allI (tq l) 0 l <;> rfl
      · intro k y hy hk
        have hm:=List.mem_of_getElem? hy
        simp only [jh hk,cond_true,iO,hy,Option.bind_some,Ed hN (lO hb hm),jm (Nat.lt_trans hk hlB)]
        unfold tq
        cases ho:jt y
        · rfl
        · obtain ⟨q1,q2⟩:=pL ho
          rw [Bj hN hl q1 q2]
          rcases EG hl ho with q | q
          · rw [q]
            simp only [Bool.not_true,cond_false,Bool.true_and,lK,Option.bind_some]
            cases (decide ((k:Int) > 0)&&(y.kind != 0&&(decide (y.box ≥ 0)&&tY l y.box))) <;> cases va l y <;> rfl
          · simp only [q,Bool.not_true,cond_false,Bool.true_and,Bool.false_and,Bool.and_false,lK,Option.bind_some]
            cases va l y <;> rfl
      · simp only [jg,cond_false]
    · rfl
  · rfl
def wA (l:List cd):Prop:=∀ o,o ∈ l→mO o
theorem qB {N:Nat} (hN:im≤N) {l:List cd} (hb:jo iz l<im) (hw:wA l):lS N l=some (kI l):=by
  have hlB:=lD hb
  unfold lS kI
  cases h10:((l.length:Int) != 10)
  · have hl:l.length=10:=vM (n:=10) h10
    rw [jC (l:=l) (i:=0) (by omega) (by omega)]
    simp only [cond_false,Option.bind_some,lN,Bool.not_false,Bool.true_and]
    rw [show ((nth l 0).kind != 1 || ((nth l 0).box != (-1) || (nth l 0).iU != 1000000))=uN l from rfl]
    cases uN l
    · simp only [cond_false,Bool.not_false,Bool.true_and]
      rw [kn l (tq l) (.inl (l.length:Int)) (.inr false) (Nat.lt_of_lt_of_le hlB hN)]
      · simp only [Option.bind_some];cases allI (tq l) 0 l <;> rfl
      · intro k y hy hk
        have hm:=List.mem_of_getElem? hy
        simp only [jh hk,cond_true,iO,hy,Option.bind_some,D0 hN (lO hb hm) (hw y hm),jm (Nat.lt_trans hk hlB)]
        unfold tq
        cases ho:jt y
        · rfl
        · obtain ⟨q1,q2⟩:=pL ho
          rw [Bj hN hl q1 q2]
          rcases EG hl ho with q | q
          · rw [q]
            simp only [Bool.not_true,cond_false,Bool.true_and,lK,Option.bind_some]
            cases y.kind != 0 <;> cases decide ((k:Int) > 0) <;> cases (decide (y.box ≥ 0)&&tY l y.box) <;> cases va l y <;> rfl
          · simp only [q,Bool.not_true,cond_false,Bool.true_and,Bool.false_and,Bool.and_false,lK,Option.bind_some]
            cases va l y <;> rfl
      · simp only [jg,cond_false]
    · rfl
  · rfl
theorem x7 {N:Nat} (hN:im≤N) {l:List Int} {x:Int} (hb:l.length<im):mU N l x=some (l.contains x):=by
  unfold mU
  rw [kn l (fun _ y=>!(y==x)) (.inl (l.length:Int)) (.inr true) (Nat.lt_of_lt_of_le hb hN),kV]
  · have:(l.all fun y=>!(y==x))=!l.contains x:=by
      induction l with
      | nil=>rfl
      | cons y l ih =>
        have ih:=ih (Nat.lt_trans (Nat.lt_succ_self _) hb)
        rw [List.all_cons,ih,List.contains_cons,Bool.beq_comm (a:=x)]
        cases (y==x) <;> rfl
    rw [this,Option.bind_some]
    cases l.contains x <;> rfl
  · intro k y hy hk
    simp only [jh hk,cond_true,iO,hy,Option.bind_some,jm (Nat.lt_trans hk hb)]
    cases (y==x) <;> rfl
  · simp only [jg,cond_false]
def qY (g:List Int) (k:Nat) (y:Int):Bool:=iE y 0 9&&!(g.take k).contains y
def mW (g:ks):Bool:=((g.phase==0)&&(g.pos==0)) || ((g.phase==1)&&(iE g.pos 0 9&&((g.ia.length:Int)==0)))
def ku (h:iA):Bool:=kI h.ag&&(mW h.gc&&(iE h.gc.round 0 1000000&&allI (qY h.gc.ia) 0 h.gc.ia))
theorem Eh {α:Type} {l:List α} {k:Nat} (h:l.length<im):(l.take k).length<im:=Nat.lt_of_le_of_lt (by simp;omega) h
theorem Cz {N:Nat} (hN:im≤N) {h:iA} (h1:jo iz h.ag<im) (h2:h.gc.ia.length<im):rj N h=some (ku h):=by
  unfold rj ku
  rw [kn h.gc.ia (qY h.gc.ia) (.inl (h.gc.ia.length:Int)) (.inr false) (Nat.lt_of_lt_of_le h2 hN)]
  · simp only [Option.bind_some,yS,wL,xR hN h1,lK]
    cases allI (qY h.gc.ia) 0 h.gc.ia
    · simp
    · simp only [if_true,Sum.elim_inl,Bool.and_true]
      unfold mW
      cases kI h.ag
      · rfl
      cases ((h.gc.phase==0)&&(h.gc.pos==0))
      · cases ((h.gc.phase==1)&&(iE h.gc.pos 0 9&&((h.gc.ia.length:Int)==0))) <;> rfl
      · rfl
  · intro k y hy hk
    simp only [jh hk,cond_true,iO,hy,Option.bind_some,yS,wI (Nat.le_of_lt hk),wj hN (Eh h2),jm (Nat.lt_trans hk h2)]
    unfold qY
    cases iE y 0 9 <;> cases (h.gc.ia.take k).contains y <;> rfl
  · simp only [jg,cond_false]
theorem Ja (n:Nat):decide ((n:Int) > 0)=!((n:Int)==0):=by
  cases n with
  | zero=>rfl
  | succ n=>rw [decide_eq_true (by omega)];simp;omega
theorem wJ {N:Nat} (hN:im≤N) {h:iA} (h1:jo iz h.ag<im) (h2:h.gc.ia.length<im) (hw:wA h.ag):nP N h=some (ku h):=by
  unfold nP ku
  rw [kn h.gc.ia (qY h.gc.ia) (.inl (h.gc.ia.length:Int)) (.inr false) (Nat.lt_of_lt_of_le h2 hN)]
  · simp only [Option.bind_some,sj,nB,qB hN h1 hw,lN,Ja]
    cases kI h.ag
    · rfl
    cases iE h.gc.round 0 1000000
    · simp
    unfold mW
    by_cases q0:h.gc.phase=0
    · have e0:(h.gc.phase==0)=true:=by simp [q0]
      have e1:(h.gc.phase==1)=false:=by simp [q0]
      have e2:iE h.gc.phase 0 1=true:=by rw [q0];decide
      rw [e0,e1,e2]
      simp only [bne]
      cases h.gc.pos==0
      · rfl
      · cases allI (qY h.gc.ia) 0 h.gc.ia <;> rfl
    by_cases q1:h.gc.phase=1
    · have e0:(h.gc.phase==0)=false:=by simp [q1]
      have e1:(h.gc.phase==1)=true:=by simp [q1]
      have e2:iE h.gc.phase 0 1=true:=by rw [q1];decide
      rw [e0,e1,e2]
      cases iE h.gc.pos 0 9
      · rfl
      cases ((h.gc.ia.length:Int)==0)
      · rfl
      · cases allI (qY h.gc.ia) 0 h.gc.ia <;> rfl
    · have e0:(h.gc.phase==0)=false:=by simp [q0]
      have e1:(h.gc.phase==1)=false:=by simp [q1]
      have e2:iE h.gc.phase 0 1=false:=by
        rw [Bool.eq_false_iff,Ne,i7];omega
      rw [e0,e1,e2];rfl
  · intro k y hy hk
    simp only [jh hk,cond_true,iO,hy,Option.bind_some,sj,wI (Nat.le_of_lt hk),x7 hN (Eh h2),jm (Nat.lt_trans hk h2)]
    unfold qY
    cases iE y 0 9 <;> cases (h.gc.ia.take k).contains y <;> rfl
  · simp only [jg,cond_false]
def mE (t:jw):Bool:=(iE t.res 0 4&&(iE t.jJ 0 2&&(iE t.mf 0 4&&iE t.kp 0 2)))&&(((t.kind==1)&&iE t.lk 0 1000) || ((t.kind==2)&&iE t.lk 0 100))
theorem Ak (N:Nat) (t:jw):qD N t=some (mE t):=by
  unfold qD mE
  simp only [xP,Cx,oF,Option.bind_some,lN,lK]
  by_cases q:t.kind=1
  · have e1:(t.kind==1)=true:=by simp [q]
    have e2:(t.kind==2)=false:=by simp [q]
    rw [e1,e2]
    cases iE t.res 0 4 <;> cases iE t.mf 0 4 <;> cases iE t.jJ 0 2 <;> cases iE t.kp 0 2 <;> cases iE t.lk 0 1000 <;> rfl
  · have e1:(t.kind==1)=false:=by simp [q]
    rw [e1]
    cases iE t.res 0 4 <;> cases iE t.mf 0 4 <;> cases iE t.jJ 0 2 <;> cases iE t.kp 0 2 <;> cases (t.kind==2) <;> cases iE t.lk 0 100 <;> rfl
theorem Ex (N:Nat) (t:jw):sH N t=some (mE t):=by
  unfold sH mE
  simp only [uR,nB,Option.bind_some,lN,lK]
  by_cases q:t.kind=1
  · have e1:(t.kind==1)=true:=by simp [q]
    have e2:(t.kind==2)=false:=by simp [q]
    rw [e1,e2]
    cases iE t.res 0 4 <;> cases iE t.jJ 0 2 <;> cases iE t.mf 0 4 <;> cases iE t.kp 0 2 <;> cases iE t.lk 0 1000 <;> rfl
  · have e1:(t.kind==1)=false:=by simp [q]
    rw [e1]
    cases iE t.res 0 4 <;> cases iE t.jJ 0 2 <;> cases iE t.mf 0 4 <;> cases iE t.kp 0 2 <;> cases (t.kind==2) <;> cases iE t.lk 0 100 <;> rfl
def uX (p:dW):Bool:=iE p.next 0 9&&(iE p.want 0 10&&(iY p.gE&&(iE p.iH 0 1000000&&iE p.lost 0 1000000)))
def iS (p:dW):Bool:=kc p.label&&(mX p.own&&(j8 p.tree&&(ku p.heap&&(!decide ((p.ij.length:Int) > 3)&&(p.ij.all mE&&uX p)))))
theorem tF {N:Nat} (hN:im≤N) {p:dW} (h:iG p<im):mH N p=some (iS p):=by
  obtain ⟨h1,h2,h3,h4,h5,h6⟩:=mq h
  unfold mH iS
  rw [kn p.ij (fun _ t=>mE t) (.inl (p.ij.length:Int)) (.inr false) (Nat.lt_of_lt_of_le h6 hN),kV]
  · simp only [Option.bind_some,G5 hN h1,I8 hN h2,tB hN,Cz hN h4 h5,yS,oF,su,wL,lN,lK]
    rw [show (iE p.next 0 9&&(iE p.want 0 10&&(iY p.gE&&(iE p.iH 0 1000000&&iE p.lost 0 1000000))))=uX p from rfl]
    cases p.ij.all mE
    · simp
    · simp only [if_true,Sum.elim_inl,Bool.true_and]
      cases kc p.label <;> cases mX p.own <;> cases j8 p.tree <;> cases ku p.heap <;> cases decide ((p.ij.length:Int) > 3) <;> rfl
  · intro k y hy hk
    simp only [jh hk,cond_true,iO,hy,Option.bind_some,Ak,jm (Nat.lt_trans hk h6)]
    cases mE y <;> rfl
  · simp only [jg,cond_false]
def wP (p:dW):Prop:=wA p.heap.ag
theorem yH {N:Nat} (hN:im≤N) {p:dW} (h:iG p<im) (hw:wP p):oT N p=some (iS p):=by
  obtain ⟨h1,h2,h3,h4,h5,h6⟩:=mq h
  unfold oT iS
  rw [kn p.ij (fun _ t=>mE t) (.inl (p.ij.length:Int)) (.inr false) (Nat.lt_of_lt_of_le h6 hN),kV]
  · simp only [Option.bind_some,xJ hN h1,Ay hN h2,wE hN,wJ hN h4 h5 hw,sj,nB,qX,lN,lK]
    unfold uX
    cases kc p.label
    · rfl
    cases mX p.own
    · rfl
    cases j8 p.tree
    · rfl
    cases ku p.heap
    · rfl
    cases decide ((p.ij.length:Int) > 3)
    · simp only [Bool.not_true,Bool.not_false,Bool.false_or,Bool.true_and]
      cases iE p.next 0 9 <;> cases iE p.want 0 10 <;> cases iY p.gE <;> cases iE p.iH 0 1000000 <;> cases iE p.lost 0 1000000 <;> cases p.ij.all mE <;> rfl
    · rfl
  · intro k y hy hk
    simp only [jh hk,cond_true,iO,hy,Option.bind_some,Ex,jm (Nat.lt_trans hk h6)]
    cases mE y <;> rfl
  · simp only [jg,cond_false]
end Go.Kx
