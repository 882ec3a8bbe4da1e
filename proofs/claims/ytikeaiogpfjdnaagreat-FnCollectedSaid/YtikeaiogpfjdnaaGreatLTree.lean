/- Plain laws: trees of reserves. No program in sight. -/
import Derived.Test.YtikeaiogpfjdnaaGreatLBoot
namespace Go.Kx
open Go
set_option linter.unusedVariables false
set_option linter.unusedSimpArgs false
set_option maxRecDepth 10000
def nth {α:Type} [iB α] (l:List α) (i:Int):α:=(l[i.toNat]?).getD iB.zero
theorem jk {α:Type} [iB α] {l:List α} {i:Int} (h0:0≤i) (h1:i<(l.length:Int)):idx l i=some (nth l i):=by
  have hz:l[i.toNat]?=some (l[i.toNat]'(by omega)):=List.getElem?_eq_getElem _
  unfold idx nth
  rw [if_pos h0,hz];rfl
theorem xe {α:Type} [iB α] {l:List α} {i a b:Int} (h:iE i a b=true) (ha:0≤a) (hb:b<(l.length:Int)):idx l i=some (nth l i):=by
  rw [jb] at h
  exact jk (by omega) (by omega)
theorem qN {α:Type} [iB α] {l:List α} {k:Nat} {y:α} (h:l[k]?=some y):nth l (k:Int)=y:=by simp [nth,h]
theorem nP {α:Type} [iB α] {l:List α} {i:Int} (h0:0≤i) (h1:i<(l.length:Int)):nth l i ∈ l:=by
  have hz:l[i.toNat]?=some (l[i.toNat]'(by omega)):=List.getElem?_eq_getElem _
  unfold nth;rw [hz];exact List.getElem_mem _
theorem sR {α:Type} {l:List α} {n:Nat} (h:((l.length:Int) != (n:Int))=false):l.length=n:=by simp at h;omega
theorem uP (N:Nat) (a:Int):l4 N a=some (iE a 0 4):=by unfold l4;rw [oV];rfl
theorem sn (N:Nat) (a:Int):kV N a=some (iE a 0 4):=by unfold kV;rw [mw];rfl
def ji (t:List iq) (i:Int):Bool:=iE i 0 4&&(nth t i).live
def up (t:List iq) (i:Int):Int:=(nth t i).parent
def leads (t:List iq):Nat→Int→Bool
  | 0,_=>false
  | n+1,i=>(i==0) || (ji t i&&leads t n (up t i))
def jz (t:List iq):Nat→Int→Int
  | 0,a=>a
  | n+1,a=>if a > 0 then jz t n (up t a) else a
theorem yF (N:Nat) {t:List iq} (h:t.length=5) (i:Int):oS N t i=some (ji t i):=by
  unfold oS ji
  rw [uP,Option.bind_some]
  cases hi:iE i 0 4
  · rfl
  · simp only [cond_true,xe hi (by omega) (show (4:Int)<(t.length:Int) by omega),Option.bind_some,Bool.true_and]
theorem Gl {k:Nat} (h:k<(List.replicate 5 ()).length):k<5∧decide ((k:Int)<5)=true:=by
  have h:k<5:=by simpa using h
  exact ⟨h,by simp;omega⟩
theorem FH {k n:Nat} {N:Nat} (hN:iy≤N) (hn:n<16777216):(List.replicate n ()).length<N:=by
  have:16777216≤N:=hN
  simp;omega
theorem B6 {N:Nat} (hN:iy≤N) {t:List iq} (h:t.length=5) (i:Int):pd N t i=some (leads t 5 i):=by
  unfold pd
  rw [show ((i,0):Int×Int)=(fun (k:Nat) (a:Int)=>(a,(k:Int))) 0 i from rfl,
    nj (List.replicate 5 ()) (fun (k:Nat) (a:Int)=>(a,(k:Int))) (fun _ a _=>if a==0 then .inr (.inr true) else if ji t a then .inl (up t a) else .inr (.inr false)) (fun a=>.inl (a,5)) (fun _ _=>True) ?_ ?_ (FH (k:=0) hN (by decide)) trivial]
  · have key:∀ (n k:Nat) (a:Int),Sum.elim (fun _=>some false) (fun r20=>some r20) (mo (ρ:=(Int×Int)⊕Bool) (fun (_:Nat) a (_:Unit)=>if a==0 then .inr (.inr true) else if ji t a then .inl (up t a) else .inr (.inr false)) (fun a=>.inl (a,5)) k a (List.replicate n ()))=some (leads t n a):=by
      intro n
      induction n with
      | zero=>intro k a;rfl
      | succ n ih =>
        intro k a
        rw [List.replicate_succ]
        unfold mo leads
        cases h0:(a==0)
        · cases h1:ji t a
          · rfl
          · simpa using ih (k+1) (up t a)
        · rfl
    exact key 5 0 i
  · intro k a y hy hk _
    obtain ⟨h5,hd⟩:=Gl hk
    refine ⟨?_,fun _ _=>trivial⟩
    simp only [hd,cond_true,yF N h,Option.bind_some]
    cases h0:(a==0)
    · cases h1:ji t a
      · rfl
      · have hin:iE a 0 4=true:=by unfold ji at h1;simp at h1;exact h1.1
        simp only [xe hin (by omega) (show (4:Int)<(t.length:Int) by omega),jo (show k<iy from Nat.lt_trans h5 (by decide)),Option.bind_some]
        rfl
    · rfl
  · intro a _
    rfl
def sE:iq:=iq.mk false 0 (iw.mk 0 0 0)
def n5 (t:List iq) (k:Nat) (r:iq):Bool:=if r.live then i7 r.iL&&leads t 5 (k:Int) else decide (r=sE)
def jc (s:iw) (t:List iq):iw:=t.foldl (fun s r=>if r.live then iV s r.iL else s) s
def km (t:List iq):Bool:=!((t.length:Int) != 5)&&((nth t 0).live&&(!((nth t 0).parent != (-1))&&(allI (n5 t) 0 t&&i7 (jc ⟨0,0,0⟩ t))))
theorem wm {N:Nat} (hN:iy≤N) {t:List iq}:nB N t=some (km t):=by
  unfold nB km
  cases h5:((t.length:Int) != 5)
  · have hl:t.length=5:=sR (n:=5) h5
    have hB:t.length<iy:=by rw [hl];decide
    rw [jk (l:=t) (i:=0) (by omega) (by omega)]
    simp only [cond_false,Option.bind_some,lG,Bool.not_false,Bool.true_and]
    cases h1:(nth t 0).live
    · rfl
    cases h2:((nth t 0).parent != (-1))
    · simp only [Bool.not_true,Bool.or_self,cond_false,Bool.true_and,Bool.not_false]
      rw [show ((0:Int),(0:Int),(0:Int),(0:Int))=(fun (k:Nat) (s:iw)=>((k:Int),s.cd,s.im,s.iC)) 0 ⟨0,0,0⟩ from rfl,
        nj t (fun (k:Nat) (s:iw)=>((k:Int),s.cd,s.im,s.iC)) (fun k s r=>if n5 t k r then .inl (if r.live then iV s r.iL else s) else .inr (.inr false)) (fun s=>.inl ((t.length:Int),s.cd,s.im,s.iC)) (fun _ _=>True) ?_ ?_ (Nat.lt_of_lt_of_le hB hN) trivial]
      · simp only [Option.bind_some,vw]
        have key:∀ (l:List iq) (k:Nat) (s:iw),Sum.elim (fun (o48:Int×Int×Int×Int)=>some (i7 (iw.mk o48.2.1 o48.2.2.1 o48.2.2.2))) (fun r53=>some r53) (mo (fun k s r=>if n5 t k r then .inl (if r.live then iV s r.iL else s) else .inr (.inr false)) (fun s=>.inl ((t.length:Int),s.cd,s.im,s.iC)) k s l)=some (allI (n5 t) k l&&i7 (jc s l)):=by
          intro l
          induction l with
          | nil=>intro k s;rfl
          | cons r l ih =>
            intro k s
            unfold mo allI
            cases hp:n5 t k r
            · rfl
            · simpa [jc] using ih (k+1) (if r.live then iV s r.iL else s)
        exact key t 0 _
      · intro k s r hy hk _
        refine ⟨?_,fun _ _=>trivial⟩
        simp only [jt hk,cond_true,iT,hy,Option.bind_some,vw,B6 hN hl,xC,lG,jo (Nat.lt_trans hk hB)]
        unfold n5
        cases hlv:r.live
        · show (bif !decide (r=sE) then _ else _)=_
          cases decide (r=sE) <;> rfl
        · cases i7 r.iL <;> cases leads t 5 (k:Int) <;> rfl
      · intro s _
        simp only [ju,cond_false]
    · rfl
  · rfl
def p1 (t:List iq) (k:Nat) (r:iq):Bool:=!((!r.live&&!decide (r=sE)) || !i7 r.iL)&&!(decide ((k:Int) > 0)&&(r.live&&(!iE r.parent 0 4 || (r.parent==(k:Int) || !(nth t r.parent).live))))
def p2 (t:List iq) (k:Nat) (r:iq):Bool:=!(r.live&&(jz t 5 (k:Int) != 0))
def Good (t:List iq):Prop:=∀ i:Int,0<i→i≤4→(nth t i).live=true→0≤up t i∧up t i≤4∧up t i ≠ i∧(nth t (up t i)).live=true
theorem AT {t:List iq} (hl:t.length=5) (h:allI (p1 t) 0 t=true):Good t:=by
  intro i h0 h4 hlv
  rw [lO] at h
  have hz:t[i.toNat]?=some (nth t i):=by
    have:=jk (l:=t) (i:=i) (by omega) (by omega)
    unfold idx at this
    rwa [if_pos (by omega)] at this
  have:=h _ _ hz
  have e:((0+i.toNat:Nat):Int)=i:=by omega
  unfold p1 at this
  rw [e] at this
  unfold up
  simp [hlv,iE] at this
  rcases this.2 with q | q
  · omega
  · exact ⟨q.1.1,q.1.2,q.2.1,q.2.2⟩
theorem x8 {t:List iq} (hg:Good t):∀ (n:Nat) (a:Int),0≤a→a≤4→(nth t a).live=true→0≤jz t n a∧jz t n a≤4∧(nth t (jz t n a)).live=true
  | 0,a,h0,h4,hlv=>⟨h0,h4,hlv⟩
  | n+1,a,h0,h4,hlv=>by
    unfold jz
    by_cases ha:a > 0
    · rw [if_pos ha]
      obtain ⟨g1,g2,_,g4⟩:=hg a ha h4 hlv
      exact x8 hg n _ g1 g2 g4
    · rw [if_neg ha];exact ⟨h0,h4,hlv⟩
theorem rH (t:List iq):∀ (m n:Nat) (a:Int),jz t (m+n) a=jz t n (jz t m a)
  | 0,n,a=>by simp [jz]
  | m+1,n,a=>by
    rw [show m+1+n=(m+n)+1 by omega]
    show (if a > 0 then jz t (m+n) (up t a) else a)=jz t n (if a > 0 then jz t m (up t a) else a)
    by_cases ha:a > 0
    · rw [if_pos ha,if_pos ha,rH t m n]
    · rw [if_neg ha,if_neg ha]
      cases n <;> simp [jz,ha]
theorem xf (t:List iq) (n:Nat):jz t n 0=0:=by cases n <;> simp [jz]
theorem tc {t:List iq} (hg:Good t):∀ (n:Nat) (a:Int),0≤a→a≤4→(nth t a).live=true→leads t (n+1) a=(jz t n a==0)
  | 0,a,h0,h4,hlv=>by simp [leads,jz]
  | n+1,a,h0,h4,hlv=>by
    rw [show leads t (n+1+1) a=((a==0) || (ji t a&&leads t (n+1) (up t a))) from rfl]
    unfold jz
    by_cases ha:a=0
    · subst ha;simp
    · have hp:a > 0:=by omega
      obtain ⟨g1,g2,_,g4⟩:=hg a hp h4 hlv
      rw [if_pos hp,tc hg n _ g1 g2 g4]
      have:ji t a=true:=by simp [ji,jb,hlv];omega
      have h0':(a==0)=false:=by simpa using ha
      rw [this,h0'];rfl
theorem Dy {t:List iq} (hg:Good t) {a:Int} (h0:0≤a) (h4:a≤4) (hlv:(nth t a).live=true) (h:jz t 5 a=0):jz t 4 a=0:=by
  have key:∀ (i j:Nat),i+j≤5→jz t i a=jz t (i+j) a→jz t (5 - j) a=0:=by
    intro i j hij e
    have h1:jz t (5 - j) a=jz t (5 - j - i) (jz t i a):=by rw [← rH];congr 1;omega
    have h2:jz t 5 a=jz t (5 - j - i) (jz t (i+j) a):=by rw [← rH];congr 1;omega
    rw [h1,e, ← h2,h]
  have mono:∀ (i j:Nat),jz t i a=0→jz t (i+j) a=0:=by
    intro i j e
    rw [rH,e,xf]
  rcases Decidable.em (jz t 4 a=0) with q | q
  · exact q
  exfalso
  have nz:∀ i,i≤4→jz t i a ≠ 0:=fun i hi e=>q (by have:=mono i (4 - i) e;rwa [show i+(4 - i)=4 by omega] at this)
  have oI:∀ i,i≤4→1≤jz t i a∧jz t i a≤4:=fun i hi=>by
    obtain ⟨r1,r2,_⟩:=x8 hg i a h0 h4 hlv
    have:=nz i hi
    omega
  have ne:∀ (i j:Nat),0<j→i+j≤4→jz t i a ≠ jz t (i+j) a:=fun i j hj hij e=>nz (5 - j) (by omega) (key i j (by omega) e)
  have r0:=oI 0 (by omega)
  have r1:=oI 1 (by omega)
  have r2:=oI 2 (by omega)
  have r3:=oI 3 (by omega)
  have r4:=oI 4 (by omega)
  have n01:=ne 0 1 (by omega) (by omega)
  have n02:=ne 0 2 (by omega) (by omega)
  have n03:=ne 0 3 (by omega) (by omega)
  have n04:=ne 0 4 (by omega) (by omega)
  have n12:=ne 1 1 (by omega) (by omega)
  have n13:=ne 1 2 (by omega) (by omega)
  have n14:=ne 1 3 (by omega) (by omega)
  have n23:=ne 2 1 (by omega) (by omega)
  have n24:=ne 2 2 (by omega) (by omega)
  have n34:=ne 3 1 (by omega) (by omega)
  simp only [Nat.zero_add,Nat.reduceAdd] at *
  generalize jz t 0 a=c0 at *
  generalize jz t 1 a=c1 at *
  generalize jz t 2 a=c2 at *
  generalize jz t 3 a=c3 at *
  generalize jz t 4 a=c4 at *
  clear key mono nz oI ne
  omega
theorem wj {t:List iq} {a:Int} (ha:a ≠ 0) (hu:up t a=a):∀ n,leads t n a=false
  | 0=>rfl
  | n+1=>by
    unfold leads
    rw [hu,wj ha hu n]
    simp [ha]
theorem CP {t:List iq} (hl:t.length=5) (h0:(nth t 0).live=true):(allI (p1 t) 0 t&&allI (p2 t) 0 t)=allI (n5 t) 0 t:=by
  have hget:∀ (i:Nat) (r:iq),t[i]?=some r→(i:Int)≤4∧nth t (i:Int)=r:=fun i r h=>⟨by have:=jg h;omega,qN h⟩
  rw [Bool.eq_iff_iff,Bool.and_eq_true]
  constructor
  · rintro ⟨h1,h2⟩
    have hg:=AT hl h1
    rw [lO] at h1 h2 ⊢
    intro i r hr
    obtain ⟨i4,hn⟩:=hget i r hr
    have q1:=h1 i r hr
    have q2:=h2 i r hr
    simp only [Nat.zero_add] at q1 q2 ⊢
    unfold p1 at q1
    unfold p2 at q2
    unfold n5
    cases hlv:r.live
    · simp [hlv] at q1
      simp [q1.1]
    · simp [hlv] at q1 q2
      have hlv':(nth t (i:Int)).live=true:=by rw [hn];exact hlv
      have:=Dy hg (by omega) i4 hlv' q2
      simp only [if_true,Bool.and_eq_true]
      refine ⟨q1.1,?_⟩
      rw [tc hg 4 _ (by omega) i4 hlv',this];rfl
  · intro h
    rw [lO] at h
    have hp:∀ (i:Int),0≤i→i≤4→(nth t i).live=true→i7 (nth t i).iL=true∧leads t 5 i=true:=by
      intro i hi hi4 hlv
      have hz:t[i.toNat]?=some (nth t i):=by
        have:=jk (l:=t) (i:=i) (by omega) (by omega)
        unfold idx at this
        rwa [if_pos (by omega)] at this
      have:=h _ _ hz
      unfold n5 at this
      rw [if_pos hlv] at this
      have e:((0+i.toNat:Nat):Int)=i:=by omega
      rw [e] at this
      simpa using this
    have hg:Good t:=by
      intro i hi hi4 hlv
      obtain ⟨_,q⟩:=hp i (by omega) hi4 hlv
      have hne:up t i ≠ i:=fun e=>by rw [wj (by omega) e] at q;cases q
      have hi0:(i==0)=false:=by simp;omega
      rw [show leads t 5 i=((i==0) || (ji t i&&leads t 4 (up t i))) from rfl,hi0] at q
      simp only [Bool.false_or,Bool.and_eq_true] at q
      rw [show leads t 4 (up t i)=((up t i==0) || (ji t (up t i)&&leads t 3 (up t (up t i)))) from rfl] at q
      rcases Decidable.em (up t i=0) with e | e
      · rw [e];exact ⟨by omega,by omega,by omega,h0⟩
      · have e':(up t i==0)=false:=by simpa using e
        rw [e'] at q
        simp only [Bool.false_or,Bool.and_eq_true] at q
        have:=q.2.1
        simp only [ji,Bool.and_eq_true,jb] at this
        exact ⟨this.1.1,this.1.2,hne,this.2⟩
    rw [lO,lO]
    refine ⟨fun i r hr=>?_,fun i r hr=>?_⟩
    · obtain ⟨i4,hn⟩:=hget i r hr
      have q:=h i r hr
      simp only [Nat.zero_add] at q ⊢
      unfold p1
      unfold n5 at q
      cases hlv:r.live
      · simp [hlv] at q
        subst q
        simp;decide
      · simp [hlv] at q
        simp [q.1]
        by_cases hi:i=0
        · exact .inl hi
        · have:=hg (i:Int) (by omega) i4 (by rw [hn];exact hlv)
          unfold up at this
          rw [hn] at this
          exact .inr ⟨jb.2 ⟨this.1,this.2.1⟩,this.2.2.1,this.2.2.2⟩
    · obtain ⟨i4,hn⟩:=hget i r hr
      simp only [Nat.zero_add]
      unfold p2
      cases hlv:r.live
      · rfl
      · have hlv':(nth t (i:Int)).live=true:=by rw [hn];exact hlv
        obtain ⟨_,q⟩:=hp (i:Int) (by omega) i4 hlv'
        rw [tc hg 4 _ (by omega) i4 hlv'] at q
        have q:jz t 4 (i:Int)=0:=by simpa using q
        have:jz t 5 (i:Int)=0:=by rw [show 5=4+1 from rfl,rH,q,xf]
        simp [this]
theorem xF {N:Nat} (hN:iy≤N) {t:List iq} (hB:t.length<iy):oA N t=some (jc ⟨0,0,0⟩ t):=by
  unfold oA jc
  rw [show ((0:Int),(0:Int),(0:Int),(0:Int))=(fun (k:Nat) (s:iw)=>((k:Int),s.cd,s.im,s.iC)) 0 ⟨0,0,0⟩ from rfl,
    mP t (fun (k:Nat) (s:iw)=>((k:Int),s.cd,s.im,s.iC)) (fun _ s r=>if r.live then iV s r.iL else s) (fun s=>((t.length:Int),s.cd,s.im,s.iC)) (fun _ _=>True) ?_ ?_ (Nat.lt_of_lt_of_le hB hN) trivial,nX]
  · rfl
  · intro k s r hy hk _
    refine ⟨?_,trivial⟩
    simp only [jt hk,cond_true,iT,hy,Option.bind_some,jo (Nat.lt_trans hk hB)]
    cases r.live <;> rfl
  · intro s _
    simp only [ju,cond_false]
theorem Co {N:Nat} (hN:iy≤N) {t:List iq} (hl:t.length=5) (hg:Good t) {k:Nat} {r:iq} (hr:t[k]?=some r) :
    ∃ n,iter (fun (s72:Int×Int)=>((bif (decide (s72.2<5)) then ((idx t (k:Int)).bind fun y77=>bif y77.live then (some (decide (s72.1 > 0))) else (some false)) else (some false):Option Bool).bind fun j74=>bif j74 then ((idx t s72.1).bind fun y89=>some (.inl (y89.parent,IntKind.i64.wrap (s72.2+1)))) else (some (.inr (s72.1,s72.2))):Option ((Int×Int)⊕(Int×Int)))) N ((k:Int),0)=some (if r.live then jz t 5 (k:Int) else (k:Int),n):=by
  have hk:=jg hr
  rw [show (((k:Int),0):Int×Int)=(fun (n:Nat) (a:Int)=>(a,(n:Int))) 0 (k:Int) from rfl,
    nj (List.replicate 5 ()) (fun (n:Nat) (a:Int)=>(a,(n:Int))) (fun n a _=>if r.live&&decide (a > 0) then .inl (up t a) else .inr (a,(n:Int))) (fun a=>(a,5)) (fun _ a=>r.live=true→0≤a∧a≤4∧(nth t a).live=true) ?_ ?_ (FH (k:=0) hN (by decide)) (fun h=>⟨by omega,by omega,by rw [qN hr];exact h⟩)]
  · have key:∀ (n j:Nat) (a:Int),(mo (ρ:=Int×Int) (fun (n:Nat) a (_:Unit)=>if r.live&&decide (a > 0) then .inl (up t a) else .inr (a,(n:Int))) (fun a=>(a,5)) j a (List.replicate n ())).1=if r.live then jz t n a else a:=by
      intro n
      induction n with
      | zero=>intro j a;simp [mo,jz]
      | succ n ih =>
        intro j a
        rw [List.replicate_succ]
        unfold mo jz
        cases hlv:r.live
        · rfl
        · have ih:=ih (j+1) (up t a)
          rw [hlv] at ih
          by_cases ha:a > 0
          · simpa [ha] using ih
          · simp [ha]
    have:=key 5 0 (k:Int)
    exact ⟨_,congrArg some (Prod.ext this rfl)⟩
  · intro n a y hy hn hI
    obtain ⟨h5,hd⟩:=Gl hn
    simp only [hd,cond_true,iT,hr,Option.bind_some]
    cases hlv:r.live
    · exact ⟨rfl,fun t' h=>by simp at h⟩
    · obtain ⟨i1,i2,i3⟩:=hI hlv
      by_cases ha:a > 0
      · have hd2:decide (a > 0)=true:=by simpa using ha
        simp only [cond_true,hd2,Option.bind_some,jk (l:=t) (i:=a) i1 (by omega),jo (show n<iy from Nat.lt_trans h5 (by decide)),Bool.and_self,if_true]
        refine ⟨rfl,fun t' h _=>?_⟩
        cases h
        obtain ⟨g1,g2,_,g4⟩:=hg a ha i2 i3
        exact ⟨g1,g2,g4⟩
      · have hd2:decide (a > 0)=false:=by simpa using ha
        simp only [cond_true,hd2,Option.bind_some,cond_false]
        exact ⟨rfl,fun t' h=>by simp at h⟩
  · intro a _
    rfl
theorem tX {N:Nat} (hN:iy≤N) {t:List iq}:mJ N t=some (km t):=by
  unfold mJ km
  cases h5:((t.length:Int) != 5)
  · have hl:t.length=5:=sR (n:=5) h5
    have hB:t.length<iy:=by rw [hl];decide
    rw [jk (l:=t) (i:=0) (by omega) (by omega)]
    simp only [cond_false,Option.bind_some,lG,Bool.not_false,Bool.true_and]
    cases h1:(nth t 0).live
    · rfl
    cases h2:((nth t 0).parent != (-1))
    · simp only [Bool.not_true,Bool.or_self,cond_false,Bool.true_and,Bool.not_false]
      rw [jX t (p1 t) (.inl (t.length:Int)) (.inr false) (Nat.lt_of_lt_of_le hB hN), ← CP hl h1]
      · simp only [Option.bind_some]
        cases hp:allI (p1 t) 0 t
        · rfl
        · have hg:=AT hl hp
          simp only [if_true,Sum.elim_inl,Bool.true_and]
          rw [jX t (p2 t) (.inl (t.length:Int)) (.inr false) (Nat.lt_of_lt_of_le hB hN)]
          · simp only [Option.bind_some,xF hN hB,oO]
            cases allI (p2 t) 0 t <;> rfl
          · intro k r hy hk
            obtain ⟨n,hn⟩:=Co hN hl hg hy
            simp only [jt hk,cond_true]
            rw [hn]
            simp only [iT,hy,Option.bind_some,jo (Nat.lt_trans hk hB)]
            unfold p2
            cases hlv:r.live
            · rfl
            · simp only [cond_true,Option.bind_some,if_true,Bool.true_and]
              cases (jz t 5 (k:Int) != 0) <;> rfl
          · simp only [ju,cond_false]
      · intro k r hy hk
        simp only [jt hk,cond_true,iT,hy,Option.bind_some,oO,sn,lG,jo (Nat.lt_trans hk hB)]
        unfold p1
        rw [show iq.mk false 0 (iw.mk 0 0 0)=sE from rfl]
        cases hin:iE r.parent 0 4
        · cases r.live <;> cases decide (r=sE) <;> cases i7 r.iL <;> cases decide ((k:Int) > 0) <;> rfl
        · rw [xe hin (by omega) (show (4:Int)<(t.length:Int) by omega)]
          simp only [Option.bind_some]
          cases r.live <;> cases decide (r=sE) <;> cases i7 r.iL <;> cases decide ((k:Int) > 0) <;> cases (r.parent==(k:Int)) <;> cases (nth t r.parent).live <;> rfl
      · simp only [ju,cond_false]
    · rfl
  · rfl
end Go.Kx
