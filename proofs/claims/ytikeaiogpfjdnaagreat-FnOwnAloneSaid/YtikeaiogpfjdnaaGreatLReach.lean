/- Plain laws: edges, what is reached, threads, who may call. No program in sight. -/
import Derived.Test.YtikeaiogpfjdnaaGreatLSame
namespace Go.Kx
open Go
set_option linter.unusedVariables false
set_option linter.unusedSimpArgs false
set_option maxRecDepth 10000
theorem Az {σ ρ:Type} {body:σ→Option (σ⊕ρ)} (μ:σ→Nat) (I:σ→Prop) (Q:ρ→Prop) (h:∀ s,I s→(∃ s',body s=some (.inl s')∧I s'∧μ s'<μ s)∨∃ r,body s=some (.inr r)∧Q r):∀ (N:Nat) (s:σ),I s→μ s<N→∃ r,iter body N s=some r∧Q r
  | 0,s,_,hN=>by omega
  | N+1,s,hI,hN=>by
    unfold iter
    rcases h s hI with ⟨s',h1,h2,h3⟩ | ⟨r,h1,h2⟩
    · rw [h1];exact Az μ I Q h N s' h2 (by omega)
    · rw [h1];exact ⟨r,rfl,h2⟩
theorem ui {α β:Type} {p:Nat→α→Bool} {h:Nat→α→β} {z:β}:∀ {l:List α} {k:Nat},z ∈ lR p h k l ↔ ∃ (i:Nat) (y:α),l[i]?=some y∧p (k+i) y=true∧z=h (k+i) y
  | [],k=>by simp [lR]
  | y::l,k=>by
    have ih:=ui (p:=p) (h:=h) (z:=z) (l:=l) (k:=k+1)
    have key:(∃ (i:Nat) (x:α),(y::l)[i]?=some x∧p (k+i) x=true∧z=h (k+i) x) ↔ (p k y=true∧z=h k y)∨z ∈ lR p h (k+1) l:=by
      rw [ih]
      constructor
      · rintro ⟨i,x,h1,h2,h3⟩
        cases i with
        | zero=>simp at h1;subst h1;exact .inl ⟨h2,h3⟩
        | succ i=>exact .inr ⟨i,x,by simpa using h1,by rwa [show k+1+i=k+(i+1) by omega],by rwa [show k+1+i=k+(i+1) by omega]⟩
      · rintro (⟨h2,h3⟩ | ⟨i,x,h1,h2,h3⟩)
        · exact ⟨0,y,rfl,h2,h3⟩
        · exact ⟨i+1,x,by simpa using h1,by rwa [show k+(i+1)=k+1+i by omega],by rwa [show k+(i+1)=k+1+i by omega]⟩
    rw [key,show lR p h k (y::l)=if p k y then h k y::lR p h (k+1) l else lR p h (k+1) l from rfl]
    cases hp:p k y <;> simp
structure Ar (l:List bh):Prop where
  len:l.length=10
  Hr:(nth l 0).kind=1
  Iz:(nth l 0).box=-1
  Ip:(nth l 0).iL=1000000
  ok:∀ o,o ∈ l→kt o=true
  ig:∀ o,o ∈ l→∀ y,y ∈ o.ig→0≤y→(nth l y).kind ≠ 0
  box:∀ (k:Nat) (o:bh),l[k]?=some o→0<k→o.kind ≠ 0→0≤o.box→(nth l o.box).kind ≠ 0
theorem C6 {l:List bh} {k:Nat} {o:bh}:sq l k o=true ↔ kt o=true∧(0<k→o.kind ≠ 0→0≤o.box→(nth l o.box).kind ≠ 0)∧∀ y,y ∈ o.ig→0≤y→(nth l y).kind ≠ 0:=by
  unfold sq tU tf
  simp only [Bool.and_eq_true,List.all_eq_true,Bool.not_eq_true',Bool.and_eq_false_iff,decide_eq_false_iff_not,bne_eq_false_iff_eq,beq_eq_false_iff_ne,ne_eq]
  constructor
  · rintro ⟨⟨h1,h2⟩,h3⟩
    refine ⟨h1,fun a b c=>?_,fun y hy h0=>?_⟩
    · rcases h2 with q | q | q | q
      · omega
      · exact absurd q b
      · omega
      · exact q
    · rcases h3 y hy with q | q
      · omega
      · exact q
  · rintro ⟨h1,h2,h3⟩
    refine ⟨⟨h1,?_⟩,fun y hy=>?_⟩
    · by_cases a:0<k
      · by_cases b:o.kind=0
        · exact .inr (.inl b)
        · by_cases c:0≤o.box
          · exact .inr (.inr (.inr (h2 a b c)))
          · exact .inr (.inr (.inl (by omega)))
      · exact .inl (by omega)
    · by_cases c:0≤y
      · exact .inr (h3 y hy c)
      · exact .inl (by omega)
theorem ko {l:List bh}:ka l=true ↔ Ar l:=by
  unfold ka tG
  simp only [Bool.and_eq_true,Bool.not_eq_true',bne_eq_false_iff_eq,Bool.or_eq_false_iff,nJ,Nat.zero_add,C6]
  constructor
  · rintro ⟨h1,⟨h2,h3,h4⟩,h5⟩
    have hm:∀ o,o ∈ l→∃ k:Nat,l[k]?=some o:=fun o ho=>List.getElem?_of_mem ho
    refine ⟨by omega,h2,h3,h4,fun o ho=>?_,fun o ho=>?_,fun k o hk=>?_⟩
    · obtain ⟨k,hk⟩:=hm o ho;exact (h5 k o hk).1
    · obtain ⟨k,hk⟩:=hm o ho;exact (h5 k o hk).2.2
    · exact (h5 k o hk).2.1
  · intro h
    refine ⟨by have:=h.len;omega,⟨h.Hr,h.Iz,h.Ip⟩,fun i y hy=>⟨h.ok y (List.mem_of_getElem? hy),h.box i y hy,h.ig y (List.mem_of_getElem? hy)⟩⟩
theorem Ar.at {l:List bh} (h:Ar l) {i:Int} (h0:0≤i) (h9:i≤9):idx l i=some (nth l i)∧nth l i ∈ l:=⟨jj h0 (by have:=h.len;omega),m7 h0 (by have:=h.len;omega)⟩
theorem Ar.va {l:List bh} (h:Ar l):l.length<im:=by rw [h.len];decide
def jM (o:bh) (now:Int):Bool:=bif o.kind==0 then true else decide (o.iL<now)
theorem DG (N:Nat) (o:bh) (now:Int):o4 N o now=some (jM o now):=od _ _ _
theorem tk (N:Nat) (o:bh) (now:Int):lp N o now=some (jM o now):=od _ _ _
def xd (l:List bh) (i:Int) (k:Nat) (y:bh):Bool:=(decide ((k:Int) > 0)&&(y.kind != 0&&((y.box==i)&&((nth l i).kind==1)))) || (nth l i).ig.contains (k:Int)
def lk (l:List bh) (i:Int):List Int:=lR (xd l i) (fun k _=>(k:Int)) 0 l
theorem Ec {o:bh} (h:kt o=true):o.ig.length<im:=Nat.lt_of_le_of_lt (sV h).1 (by decide)
theorem uf {l:List bh} {i k:Int} (h:k ∈ lk l i):0≤k∧k<(l.length:Int):=by
  obtain ⟨j,y,h1,_,h3⟩:=ui.1 h
  have:=ju h1
  have h3:k=((0+j:Nat):Int):=h3
  omega
theorem DS (l:List bh) (i:Int):(lk l i).length≤l.length:=wc _ _ _ _
theorem DR {N:Nat} (hN:im≤N) {l:List bh} (h:Ar l) {i:Int} (h0:0≤i) (h9:i≤9):o9 N l i=some (lk l i):=by
  obtain ⟨q1,q2⟩:=h.at h0 h9
  have hB:=h.va
  unfold o9 lk
  rw [ru l (xd l i) (fun k _=>(k:Int)) hB hN]
  · rfl
  · intro k t y hy hk ht
    simp only [jt hk,cond_true,iT,hy,Option.bind_some,q1,ss hN (Ec (h.ok _ q2)),k5,kO,jx (Nat.lt_trans hk hB),kV ht (Nat.lt_of_le_of_lt hk hB)]
    show (bif xd l i k y then _ else _)=_
    cases xd l i k y <;> rfl
  · intro t
    simp only [jr,cond_false]
theorem CZ {l:List bh} (h:Ar l) {i:Int} (h0:0≤i) (h9:i≤9) (hk:(nth l i).kind=0):lk l i=[]:=by
  obtain ⟨_,q2⟩:=h.at h0 h9
  have hl:(nth l i).ig=[]:=by
    have:=h.ok _ q2
    unfold kt at this
    simp only [hk,beq_self_eq_true,cond_true,Bool.and_eq_true,decide_eq_true_eq] at this
    rw [this.2.2];rfl
  rw [List.eq_nil_iff_forall_not_mem]
  intro k hm
  obtain ⟨j,y,_,h2,_⟩:=ui.1 hm
  simp [xd,hk,hl] at h2
theorem CA {N:Nat} (hN:im≤N) {l:List bh} (hb:jl iA l<im) (hw:wA l) (h:Ar l) {i:Int} (h0:0≤i) (h9:i≤9):pz N l i=some (lk l i):=by
  obtain ⟨q1,q2⟩:=h.at h0 h9
  have hB:=h.va
  have hi:iG i 0 9=true:=by rw [jv];omega
  unfold pz
  simp only [pH hN hb hw,ko.2 h,rm,hi,q1,Option.bind_some,Bool.not_true,cond_false]
  cases hk:(nth l i).kind==0
  · simp only [cond_false]
    unfold lk
    rw [ru l (xd l i) (fun k _=>(k:Int)) hB hN]
    · rfl
    · intro k t y hy hk ht
      simp only [jt hk,cond_true,iT,hy,Option.bind_some,wm hN (Ec (h.ok _ q2)),k5,kO,jx (Nat.lt_trans hk hB),kV ht (Nat.lt_of_le_of_lt hk hB)]
      unfold xd
      cases decide ((k:Int) > 0)
      · cases (nth l i).ig.contains (k:Int) <;> rfl
      cases y.kind != 0
      · cases (nth l i).ig.contains (k:Int) <;> rfl
      cases y.box==i
      · cases (nth l i).ig.contains (k:Int) <;> rfl
      · cases ((nth l i).kind==1) <;> cases (nth l i).ig.contains (k:Int) <;> rfl
    · intro t
      simp only [jr,cond_false]
  · rw [CZ h h0 h9 (by simpa using hk)];rfl
inductive Reaches (l:List bh) (now:Int):Int→Prop
  | root:Reaches l now 0
  | step {i k:Int}:Reaches l now i→k ∈ lk l i→jM (nth l k) now=false→Reaches l now k
theorem Reaches.w8 {l:List bh} {now:Int} (h:Ar l) {k:Int} (hr:Reaches l now k):0≤k∧k≤9:=by
  cases hr with
  | root=>omega
  | step _ h2 _=>have:=uf h2;have:=h.len;omega
def rG:List Bool→Nat
  | []=>0
  | b::r=>(if b then 0 else 1)+rG r
theorem Ct:∀ {r:List Bool} {k:Nat},r[k]?=some false→rG (r.set k true)+1=rG r
  | b::r,0,h=>by simp at h;subst h;simp [rG];omega
  | b::r,k+1,h=>by
    have:=Ct (r:=r) (k:=k) (by simpa using h)
    simp only [List.set_cons_succ,rG];omega
def vE (r q:List Bool):Prop:=∀ k:Nat,r[k]?=some true→q[k]?=some true
theorem Ai:∀ {r q:List Bool},r.length=q.length→vE r q→rG r≤rG q→r=q
  | [],[],_,_,_=>rfl
  | b::r,c::q,hl,h,hc=>by
    have hl':r.length=q.length:=by simpa using hl
    have h':vE r q:=fun k hk=>by simpa using h (k+1) (by simpa using hk)
    have key:∀ {r q:List Bool},r.length=q.length→vE r q→rG q≤rG r:=by
      intro r
      induction r with
      | nil=>intro q hl _;cases q with
        | nil=>exact Nat.le_refl _
        | cons=>simp at hl
      | cons b r ih =>
        intro q hl h
        cases q with
        | nil=>simp at hl
        | cons c q =>
          have:=ih (q:=q) (by simpa using hl) (fun k hk=>by simpa using h (k+1) (by simpa using hk))
          have h0:=h 0
          simp at h0
          simp only [rG]
          cases b <;> cases c <;> simp_all <;> omega
    have h0:=h 0
    simp at h0
    have:=key hl' h'
    simp only [rG] at hc
    cases b <;> cases c
    · exact congrArg _ (Ai hl' h' (by simpa using hc))
    · exfalso;simp at hc;omega
    · simp at h0
    · exact congrArg _ (Ai hl' h' (by simpa using hc))
theorem Ch {r:List Bool} {k:Nat}:vE r (r.set k true):=fun j hj=>by
  rw [List.getElem?_set]
  split
  · rename_i e;subst e;rw [if_pos (ju hj)]
  · exact hj
theorem setAt {r:List Bool} {k j:Nat} (h:(r.set k true)[j]?=some true):j=k∨r[j]?=some true:=by
  rw [List.getElem?_set] at h
  split at h
  · exact .inl (by omega)
  · exact .inr h
def uq (l:List bh) (now:Int) (r:List Bool) (y:Int):List Bool:=if jM (nth l y) now then r else r.set y.toNat true
def visit (l:List bh) (now:Int) (k:Nat) (r:List Bool) (o:bh):List Bool:=if !(nth r (k:Int)) || (jM o now&&decide ((k:Int) > 0)) then r else (lk l (k:Int)).foldl (uq l now) r
def sT (l:List bh) (now:Int) (r:List Bool):List Bool:=foldI (visit l now) 0 r l
def pC (l:List bh) (now:Int):Nat→List Bool→List Bool
  | 0,r=>r
  | n+1,r=>pC l now n (sT l now r)
def reach (l:List bh) (now:Int):List Bool:=if ka l then pC l now 10 ((List.replicate 10 false).set 0 true) else []
theorem yy (l:List bh) (now:Int) (r:List Bool) (y:Int):(uq l now r y).length=r.length:=by unfold uq;split <;> simp
theorem z6 (l:List bh) (now:Int):∀ (e:List Int) (r:List Bool),(e.foldl (uq l now) r).length=r.length
  | [],r=>rfl
  | y::e,r=>by rw [List.foldl_cons,z6 l now e,yy]
theorem ur (l:List bh) (now:Int) (k:Nat) (r:List Bool) (o:bh):(visit l now k r o).length=r.length:=by
  unfold visit
  split
  · rfl
  · exact z6 _ _ _ _
theorem GM (l:List bh) (now:Int) (r:List Bool) (y:Int):vE r (uq l now r y):=by
  unfold uq
  split
  · exact fun _ h=>h
  · exact Ch
theorem yG (l:List bh) (now:Int):∀ (e:List Int) (r:List Bool),vE r (e.foldl (uq l now) r)
  | [],r=>fun _ h=>h
  | y::e,r=>fun k hk=>yG l now e _ k (GM l now r y k hk)
theorem AK (l:List bh) (now:Int) (k:Nat) (r:List Bool) (o:bh):vE r (visit l now k r o):=by
  unfold visit
  split
  · exact fun _ h=>h
  · exact yG _ _ _ _
theorem AE (l:List bh) (now:Int):∀ (e:List Int) (r:List Bool),(∀ y,y ∈ e→y.toNat<r.length)→∀ y,y ∈ e→jM (nth l y) now=false→(e.foldl (uq l now) r)[y.toNat]?=some true
  | z::e,r,hr,y,hy,hx=>by
    rw [List.foldl_cons]
    rcases List.mem_cons.1 hy with rfl | hy
    · refine yG l now e _ _ ?_
      unfold uq
      rw [if_neg (by simp [hx]),List.getElem?_set_self (hr y (by simp))]
    · exact AE l now e _ (fun x h=>by rw [yy];exact hr x (by simp [h])) y hy hx
def tm (l:List bh) (now:Int) (r:List Bool):Prop:=∀ k:Nat,r[k]?=some true→Reaches l now (k:Int)
theorem Ac {l:List bh} {now i:Int} (hi:Reaches l now i):∀ (e:List Int) (r:List Bool),(∀ y,y ∈ e→y ∈ lk l i)→tm l now r→tm l now (e.foldl (uq l now) r)
  | [],r,_,h=>h
  | y::e,r,he,h=>by
    rw [List.foldl_cons]
    refine Ac hi e _ (fun x hx=>he x (by simp [hx])) ?_
    unfold uq
    split
    · exact h
    · rename_i hx
      intro k hk
      rcases setAt hk with q | q
      · have hy:=he y (by simp)
        have:=uf hy
        have e:(k:Int)=y:=by omega
        rw [e]
        exact .step hi hy (by simpa using hx)
      · exact h k q
theorem xl {r:List Bool} {k:Nat}:nth r (k:Int)=true ↔ r[k]?=some true:=by
  unfold nth
  rw [Int.toNat_natCast]
  cases h:r[k]? with
  | none=>simp;try rfl
  | some b=>simp
theorem vY {l:List bh} {now:Int} {k:Nat} {r:List Bool} {o:bh} (h:tm l now r):tm l now (visit l now k r o):=by
  unfold visit
  split
  · exact h
  · rename_i hc
    simp only [Bool.or_eq_true,Bool.not_eq_true',not_or,Bool.not_eq_false] at hc
    exact Ac (h k (xl.1 hc.1)) _ _ (fun _ hy=>hy) h
theorem uE {l:List bh} {now:Int}:∀ (m:List bh) (k:Nat) (r:List Bool),tm l now r→(foldI (visit l now) k r m).length=r.length∧vE r (foldI (visit l now) k r m)∧tm l now (foldI (visit l now) k r m)
  | [],k,r,h=>⟨rfl,fun _ h=>h,h⟩
  | o::m,k,r,h=>by
    obtain ⟨h1,h2,h3⟩:=uE m (k+1) (visit l now k r o) (vY h)
    exact ⟨by unfold foldI;rw [h1,ur],fun j hj=>h2 j (AK l now k r o j hj),h3⟩
def xB (l:List bh) (now:Int) (r q:List Bool):Prop:=∀ i:Nat,r[i]?=some true→∀ y,y ∈ lk l (i:Int)→jM (nth l y) now=false→q[y.toNat]?=some true
theorem CT {l:List bh} {now:Int} (h:Ar l) {k:Int} (hr:Reaches l now k) (hk:k ≠ 0):jM (nth l k) now=false:=by
  cases hr with
  | root=>exact absurd rfl hk
  | step _ _ h3=>exact h3
theorem zf {l:List bh} {now:Int} (h:Ar l):∀ (m:List bh) (k:Nat) (r q:List Bool),(∀ j:Nat,m[j]?=l[k+j]?)→r.length=10→tm l now r→vE q r→∀ i:Nat,k≤i→q[i]?=some true→∀ y,y ∈ lk l (i:Int)→jM (nth l y) now=false→(foldI (visit l now) k r m)[y.toNat]?=some true
  | [],k,r,q,hm,hr,hs,hq,i,hi,hqi,y,hy,hx=>by
    have:=(hs i (hq i hqi)).w8 h
    have h2:=hm (i - k)
    rw [show k+(i - k)=i by omega] at h2
    have:=h.len
    rw [List.getElem?_eq_getElem (show i<l.length by omega)] at h2
    simp at h2
  | o::m,k,r,q,hm,hr,hs,hq,i,hi,hqi,y,hy,hx=>by
    have ho:l[k]?=some o:=by have:=hm 0;simpa using this.symm
    unfold foldI
    rcases Nat.eq_or_lt_of_le hi with e | hlt
    · subst e
      refine (uE m (k+1) _ (vY hs)).2.1 _ ?_
      have hk:nth r (k:Int)=true:=xl.2 (hq k hqi)
      have hn:(jM o now&&decide ((k:Int) > 0))=false:=by
        by_cases h0:k=0
        · subst h0;simp
        · have:=CT h (hs k (hq k hqi)) (by omega)
          rw [Av ho] at this
          simp [this]
      unfold visit
      rw [if_neg (by rw [hk,hn];decide)]
      exact AE l now _ r (fun z hz=>by have:=uf hz;have:=h.len;omega) y hy hx
    · exact zf h m (k+1) (visit l now k r o) q (fun j=>by have:=hm (j+1);rw [show k+1+j=k+(j+1) by omega, ← this];rfl) (by rw [ur,hr]) (vY hs) (fun j hj=>AK l now k r o j (hq j hj)) i hlt hqi y hy hx
theorem vB {l:List bh} {now:Int} (h:Ar l):∀ (n:Nat) (r:List Bool),r.length=10→tm l now r→(pC l now n r).length=10∧vE r (pC l now n r)∧tm l now (pC l now n r)∧(rG r<n→xB l now (pC l now n r) (pC l now n r))
  | 0,r,hr,hs=>⟨hr,fun _ h=>h,hs,fun h=>by omega⟩
  | n+1,r,hr,hs=>by
    obtain ⟨p1,p2,p3⟩:=uE (l:=l) (now:=now) l 0 r hs
    have p4:=fun i hi=>zf h l 0 r r (fun j=>by rw [Nat.zero_add]) hr hs (fun _ h=>h) i (Nat.zero_le _) hi
    obtain ⟨q1,q2,q3,q4⟩:=vB h n (sT l now r) (by unfold sT;rw [p1,hr]) p3
    refine ⟨q1,fun k hk=>q2 k (p2 k hk),q3,fun hc=>?_⟩
    by_cases hcl:rG (sT l now r)<n
    · exact q4 hcl
    · have e:r=sT l now r:=Ai p1.symm p2 (by omega)
      have fix:∀ m,pC l now m r=r:=by
        intro m
        induction m with
        | zero=>rfl
        | succ m ih=>unfold pC;rw [← e,ih]
      rw [fix (n+1)]
      intro i hi y hy hx
      have:=p4 i hi y hy hx
      rwa [show foldI (visit l now) 0 r l=r from e.symm] at this
def Fj (l:List bh) (now:Int) (r:List Bool):Prop:=r.length=10∧∀ k:Nat,r[k]?=some true ↔ Reaches l now (k:Int)
theorem D0 {l:List bh} {now:Int} (h:Ar l) {r:List Bool} (hl:r.length=10) (hs:tm l now r) (h0:r[0]?=some true) (hc:xB l now r r):Fj l now r:=by
  refine ⟨hl,fun k=>⟨hs k,fun hr=>?_⟩⟩
  have key:∀ j:Int,Reaches l now j→r[j.toNat]?=some true:=by
    intro j hj
    induction hj with
    | root=>exact h0
    | step h1 h2 h3 ih =>
      rename_i i k
      have:=(Reaches.w8 h h1)
      refine hc i.toNat ih k ?_ h3
      rwa [show ((i.toNat:Nat):Int)=i by omega]
  simpa using key k hr
theorem G8 {l:List bh} {now:Int} {r q:List Bool} (h1:Fj l now r) (h2:Fj l now q):r=q:=by
  apply List.ext_getElem? fun k=>?_
  rcases Nat.lt_or_ge k 10 with hk | hk
  · have e:r[k]?=some true ↔ q[k]?=some true:=(h1.2 k).trans (h2.2 k).symm
    rw [List.getElem?_eq_getElem (by rw [h1.1];exact hk),List.getElem?_eq_getElem (by rw [h2.1];exact hk)] at e ⊢
    generalize r[k]'(by rw [h1.1];exact hk)=a at *
    generalize q[k]'(by rw [h2.1];exact hk)=b at *
    cases a <;> cases b <;> simp_all
  · rw [List.getElem?_eq_none (by rw [h1.1];exact hk),List.getElem?_eq_none (by rw [h2.1];exact hk)]
theorem Eh (l:List bh) (now:Int):tm l now ((List.replicate 10 false).set 0 true):=fun k hk=>by
  rcases setAt hk with q | q
  · subst q;exact .root
  · rw [List.getElem?_replicate] at q;split at q <;> simp at q
theorem Bg {l:List bh} (h:Ar l) (now:Int):Fj l now (reach l now):=by
  unfold reach
  rw [if_pos (ko.2 h)]
  obtain ⟨q1,q2,q3,q4⟩:=vB (now:=now) h 10 ((List.replicate 10 false).set 0 true) rfl (Eh l now)
  exact D0 h q1 q3 (q2 0 rfl) (q4 (by decide))
theorem pV {l:List bh} (h:Ar l) (now:Int):(reach l now).length=10:=(Bg h now).1
theorem vG {l:List bh} {now:Int}:∀ (m:List bh) (k:Nat) (r:List Bool),(foldI (visit l now) k r m).length=r.length
  | [],k,r=>rfl
  | o::m,k,r=>by unfold foldI;rw [vG m,ur]
theorem FK {N:Nat} (hN:im≤N) {l:List bh} (h:Ar l) {now:Int} {e:List Int} (he:∀ y,y ∈ e→0≤y∧y≤9) (hl:e.length≤10) {r:List Bool} (hr:r.length=10) :
    iter (fun (s67:(List Bool)×Int)=>(bif (decide (s67.2<(e.length:Int))) then ((idx e s67.2).bind fun y70=>(idx l y70).bind fun y83=>bif (!(jM y83 now)) then ((idx s67.1 y70).bind fun y104=>some (.inl (s67.1.set (y70:Int).toNat true,IntKind.i64.wrap (s67.2+1)))) else (some (.inl (s67.1,IntKind.i64.wrap (s67.2+1))))) else (some (.inr (s67.1,s67.2))):Option (((List Bool)×Int)⊕((List Bool)×Int)))) N (r,0)=some (e.foldl (uq l now) r,(e.length:Int)):=by
  have hB:e.length<im:=Nat.lt_of_le_of_lt hl (by decide)
  rw [show (r,(0:Int))=(fun (k:Nat) (t:List Bool)=>(t,(k:Int))) 0 r from rfl,
    lB e (fun (k:Nat) (t:List Bool)=>(t,(k:Int))) (fun _ t y=>uq l now t y) (fun t=>(t,(e.length:Int))) (fun _ t=>t.length=10) ?_ ?_ (Nat.lt_of_lt_of_le hB hN) hr,nE]
  · intro k t y hy hk ht
    obtain ⟨y0,y9⟩:=he y (List.mem_of_getElem? hy)
    refine ⟨?_,by rw [yy,ht]⟩
    simp only [jt hk,cond_true,iT,hy,Option.bind_some,(h.at y0 y9).1,tk,jx (Nat.lt_trans hk hB),jj (l:=t) y0 (by omega)]
    unfold uq
    cases jM (nth l y) now <;> rfl
  · intro t _
    simp only [jr,cond_false]
theorem tN {l:List bh} (h:Ar l) (i:Int):(∀ y,y ∈ lk l i→0≤y∧y≤9)∧(lk l i).length≤10:=by
  have:=h.len
  refine ⟨fun y hy=>by have:=uf hy;omega,by have:=DS l i;omega⟩
theorem B8 {N:Nat} (hN:im≤N) {l:List bh} (hb:jl iA l<im) (hw:wA l) (now:Int):rJ N l now=some (reach l now):=by
  unfold rJ reach
  rw [pH hN hb hw,Option.bind_some]
  cases ha:ka l
  · rfl
  have h:=ko.1 ha
  have hB:=h.va
  simp only [Bool.not_true,cond_false,if_true]
  rw [show mk Bool 10=some (List.replicate 10 false) from rfl]
  simp only [Option.bind_some]
  rw [show idx (List.replicate 10 false) 0=some false from rfl]
  simp only [Option.bind_some]
  have hin:∀ r:List Bool,r.length=10→iter (fun (s21:(List Bool)×Int)=>(bif (decide (s21.2<(l.length:Int))) then (((idx s21.1 s21.2).bind fun y26=>bif (!y26) then (some true) else ((idx l s21.2).bind fun y40=>(lp N y40 now).bind fun y58=>bif y58 then (some (decide (s21.2 > 0))) else (some false)):Option Bool).bind fun j24=>bif j24 then (some (.inl (s21.1,IntKind.i64.wrap (s21.2+1)))) else ((pz N l s21.2).bind fun y63=>(iter (fun (s67:(List Bool)×Int)=>(bif (decide (s67.2<(y63.length:Int))) then ((idx y63 s67.2).bind fun y70=>(idx l y70).bind fun y83=>(lp N y83 now).bind fun y101=>bif (!y101) then ((idx s67.1 y70).bind fun y104=>some (.inl (s67.1.set (y70:Int).toNat true,IntKind.i64.wrap (s67.2+1)))) else (some (.inl (s67.1,IntKind.i64.wrap (s67.2+1))))) else (some (.inr (s67.1,s67.2))):Option (((List Bool)×Int)⊕((List Bool)×Int)))) N (s21.1,0)).bind fun o111=>some (.inl (o111.1,IntKind.i64.wrap (s21.2+1))))) else (some (.inr (s21.1,s21.2))):Option (((List Bool)×Int)⊕((List Bool)×Int)))) N (r,0)=some (sT l now r,(l.length:Int)):=by
    intro r hr
    rw [show (r,(0:Int))=(fun (k:Nat) (t:List Bool)=>(t,(k:Int))) 0 r from rfl,
      lB l (fun (k:Nat) (t:List Bool)=>(t,(k:Int))) (fun k t y=>visit l now k t y) (fun t=>(t,(l.length:Int))) (fun _ t=>t.length=10) ?_ ?_ (Nat.lt_of_lt_of_le hB hN) hr]
    · rfl
    · intro k t y hy hk ht
      have hk10:k<10:=by rw [← h.len];exact hk
      refine ⟨?_,by rw [ur,ht]⟩
      simp only [jt hk,cond_true]
      rw [jj (l:=t) (i:=(k:Int)) (by omega) (by omega)]
      simp only [iT,hy,Option.bind_some,tk,jx (Nat.lt_trans hk hB)]
      rw [CA hN hb hw h (i:=(k:Int)) (by omega) (by omega),Option.bind_some,FK hN h (tN h _).1 (tN h _).2 ht]
      unfold visit
      cases nth t (k:Int) <;> cases jM y now <;> cases decide ((k:Int) > 0) <;> rfl
    · intro t _
      simp only [jr,cond_false]
  have hout:∀ (n:Nat) (j:Nat) (r:List Bool),r.length=10→foldI (fun _ t (_:Unit)=>sT l now t) j r (List.replicate n ())=pC l now n r:=by
    intro n
    induction n with
    | zero=>intro j r _;rfl
    | succ n ih=>intro j r hr;rw [List.replicate_succ];unfold foldI pC;exact ih _ _ (by
        have:=vG (l:=l) (now:=now) l 0 r
        unfold sT;rw [this,hr])
  rw [show (((List.replicate 10 false).set (0:Int).toNat true,(0:Int)):List Bool×Int)=(fun (k:Nat) (t:List Bool)=>(t,(k:Int))) 0 ((List.replicate 10 false).set 0 true) from rfl,
    lB (List.replicate 10 ()) (fun (k:Nat) (t:List Bool)=>(t,(k:Int))) (fun _ t _=>sT l now t) (fun t=>(t,(10:Int))) (fun _ t=>t.length=10) ?_ ?_ (G7 (k:=0) hN (by decide)) rfl,hout 10 0 _ rfl]
  · rfl
  · intro k t y hy hk ht
    have hk:k<10:=by simpa using hk
    refine ⟨?_,by have:=vG (l:=l) (now:=now) l 0 t;unfold sT;rw [this,ht]⟩
    have h3:decide ((k:Int)<10)=true:=by simp;omega
    simp only [h3,cond_true]
    rw [hin t ht]
    simp only [Option.bind_some,jx (show k<im from Nat.lt_trans hk (by decide))]
  · intro t _
    rfl
def push (l:List bh) (now:Int) (s:List Bool×List Int) (y:Int):List Bool×List Int:=if !(nth s.1 y)&&!jM (nth l y) now then (s.1.set y.toNat true,s.2++[y]) else s
theorem yT {r:List Bool} {y:Int} (h0:0≤y):nth r y=true ↔ r[y.toNat]?=some true:=by
  have:=xl (r:=r) (k:=y.toNat)
  rwa [show ((y.toNat:Nat):Int)=y by omega] at this
theorem uX {l:List bh} {now i:Int} (hi:Reaches l now i):∀ (e:List Int) (s:List Bool×List Int),(∀ y,y ∈ e→y ∈ lk l i∧0≤y∧y≤9)→s.1.length=10→tm l now s.1 →
    let z:=e.foldl (push l now) s
    z.1.length=10∧tm l now z.1∧vE s.1 z.1∧z.2.length+rG z.1=s.2.length+rG s.1∧(∀ y,y ∈ e→jM (nth l y) now=false→z.1[y.toNat]?=some true)∧(∀ y,y ∈ s.2→y ∈ z.2) ∧
      (∀ y,y ∈ z.2→y ∈ s.2∨(0≤y∧z.1[y.toNat]?=some true))∧(∀ k:Nat,z.1[k]?=some true→s.1[k]?=some true∨(k:Int) ∈ z.2)
  | [],s,_,h1,h2=>⟨h1,h2,fun _ h=>h,rfl,fun _ h=>absurd h (by simp),fun _ h=>h,fun _ h=>.inl h,fun _ h=>.inl h⟩
  | y::e,s,he,h1,h2=>by
    obtain ⟨e1,e2,e3⟩:=he y (by simp)
    have hlt:y.toNat<s.1.length:=by omega
    simp only [List.foldl_cons]
    by_cases hc:(!(nth s.1 y)&&!jM (nth l y) now)=true
    · have hp:push l now s y=(s.1.set y.toNat true,s.2++[y]):=by unfold push;rw [if_pos hc]
      simp only [Bool.and_eq_true,Bool.not_eq_true'] at hc
      have hf:s.1[y.toNat]?=some false:=by
        have:¬ s.1[y.toNat]?=some true:=fun q=>by rw [(yT e2).2 q] at hc;simp at hc
        rw [List.getElem?_eq_getElem hlt] at this ⊢
        cases hb:s.1[y.toNat] <;> simp_all
      have hs:tm l now (s.1.set y.toNat true):=fun k hk=>by
        rcases setAt hk with q | q
        · have e:(k:Int)=y:=by omega
          rw [e];exact .step hi e1 hc.2
        · exact h2 k q
      rw [hp]
      obtain ⟨a1,a2,a3,a4,a5,a6,a7,a8⟩:=uX hi e (s.1.set y.toNat true,s.2++[y]) (fun x hx=>he x (by simp [hx])) (by simpa using h1) hs
      have hy:(e.foldl (push l now) (s.1.set y.toNat true,s.2++[y])).1[y.toNat]?=some true:=a3 _ (List.getElem?_set_self hlt)
      refine ⟨a1,a2,fun k hk=>a3 k (Ch k hk),?_,fun x hx hxx=>?_,fun x hx=>a6 x (by simp [hx]),fun x hx=>?_,fun k hk=>?_⟩
      · have:=Ct hf
        simp only [List.length_append,List.length_cons,List.length_nil] at a4
        omega
      · rcases List.mem_cons.1 hx with rfl | hx
        · exact hy
        · exact a5 x hx hxx
      · rcases a7 x hx with q | q
        · rcases List.mem_append.1 q with q | q
          · exact .inl q
          · simp at q;subst q;exact .inr ⟨e2,hy⟩
        · exact .inr q
      · rcases a8 k hk with q | q
        · rcases setAt q with q | q
          · refine .inr (a6 (k:Int) ?_)
            have e:(k:Int)=y:=by omega
            simp [e]
          · exact .inl q
        · exact .inr q
    · have hp:push l now s y=s:=by unfold push;rw [if_neg hc]
      rw [hp]
      obtain ⟨a1,a2,a3,a4,a5,a6,a7,a8⟩:=uX hi e s (fun x hx=>he x (by simp [hx])) h1 h2
      refine ⟨a1,a2,a3,a4,fun x hx hxx=>?_,a6,a7,a8⟩
      rcases List.mem_cons.1 hx with rfl | hx
      · refine a3 _ ((yT e2).1 ?_)
        cases hn:nth s.1 x
        · exact absurd (show (!(nth s.1 x)&&!jM (nth l x) now)=true by simp [hn,hxx]) hc
        · rfl
      · exact a5 x hx hxx
theorem zA (l:List bh) (now:Int):∀ (e:List Int) (s:List Bool×List Int),s.2.length≤(e.foldl (push l now) s).2.length
  | [],s=>Nat.le_refl _
  | y::e,s=>by
    rw [List.foldl_cons]
    refine Nat.le_trans ?_ (zA l now e _)
    unfold push;split <;> simp
theorem EX {N:Nat} (hN:im≤N) {l:List bh} (h:Ar l) {now:Int} {e:List Int} (he:∀ y,y ∈ e→0≤y∧y≤9) (hl:e.length≤10) {r:List Bool} (hr:r.length=10) {t:List Int} (ht:t.length≤100) :
    iter (fun (s45:(List Bool)×(List Int)×Int)=>(bif (decide (s45.2.2<(e.length:Int))) then ((idx e s45.2.2).bind fun y48=>((idx s45.1 y48).bind fun y63=>bif (!y63) then ((idx l y48).bind fun y77=>(o4 N y77 now).bind fun y95=>some (!y95)) else (some false):Option Bool).bind fun j61=>bif j61 then ((idx s45.1 y48).bind fun y99=>(app s45.2.1 [y48]).bind fun y106=>some (.inl (s45.1.set (y48:Int).toNat true,y106,IntKind.i64.wrap (s45.2.2+1)))) else (some (.inl (s45.1,s45.2.1,IntKind.i64.wrap (s45.2.2+1))))) else (some (.inr (s45.1,s45.2.1,s45.2.2))):Option (((List Bool)×(List Int)×Int)⊕((List Bool)×(List Int)×Int)))) N (r,t,0) =
      some ((e.foldl (push l now) (r,t)).1,(e.foldl (push l now) (r,t)).2,(e.length:Int)):=by
  have hB:e.length<im:=Nat.lt_of_le_of_lt hl (by decide)
  rw [show (r,t,(0:Int))=(fun (k:Nat) (s:List Bool×List Int)=>(s.1,s.2,(k:Int))) 0 (r,t) from rfl,
    lB e (fun (k:Nat) (s:List Bool×List Int)=>(s.1,s.2,(k:Int))) (fun _ s y=>push l now s y) (fun s=>(s.1,s.2,(e.length:Int))) (fun k s=>s.1.length=10∧s.2.length≤100+k) ?_ ?_ (Nat.lt_of_lt_of_le hB hN) ⟨hr,ht⟩,nE]
  · intro k s y hy hk ⟨i1,i2⟩
    obtain ⟨y0,y9⟩:=he y (List.mem_of_getElem? hy)
    refine ⟨?_,by
      unfold push
      split
      · simp only [List.length_set,List.length_append,List.length_cons,List.length_nil];omega
      · omega⟩
    have hkB:100+k+1<im:=by have:(16777216:Nat)=im:=rfl;omega
    simp only [jt hk,cond_true,iT,hy,Option.bind_some,(h.at y0 y9).1,DG,jx (Nat.lt_trans hk hB),jj (l:=s.1) y0 (by omega),kV i2 hkB,k5]
    unfold push
    cases (!(nth s.1 y)&&!jM (nth l y) now) <;> rfl
  · intro s _
    simp only [jr,cond_false]
theorem Cy {N:Nat} (hN:im≤N) {l:List bh} (hb:jl iA l<im) (now:Int):rD N l now=some (reach l now):=by
  unfold rD
  rw [uo hN hb,Option.bind_some]
  cases ha:ka l
  · unfold reach;rw [ha];rfl
  have h:=ko.1 ha
  simp only [Bool.not_true,cond_false]
  rw [show mk Bool 10=some (List.replicate 10 false) from rfl]
  simp only [Option.bind_some]
  rw [show idx (List.replicate 10 false) 0=some false from rfl]
  simp only [Option.bind_some]
  obtain ⟨z,hz,hz1,hz2,hz3,hz4⟩:=Az (body:=fun (s18:(List Bool)×(List Int))=>(bif (decide ((s18.2.length:Int) > 0)) then ((idx s18.2 0).bind fun y21=>(sub s18.2 1 (s18.2.length:Int)).bind fun y34=>(o9 N l y21).bind fun y41=>(iter (fun (s45:(List Bool)×(List Int)×Int)=>(bif (decide (s45.2.2<(y41.length:Int))) then ((idx y41 s45.2.2).bind fun y48=>((idx s45.1 y48).bind fun y63=>bif (!y63) then ((idx l y48).bind fun y77=>(o4 N y77 now).bind fun y95=>some (!y95)) else (some false):Option Bool).bind fun j61=>bif j61 then ((idx s45.1 y48).bind fun y99=>(app s45.2.1 [y48]).bind fun y106=>some (.inl (s45.1.set (y48:Int).toNat true,y106,IntKind.i64.wrap (s45.2.2+1)))) else (some (.inl (s45.1,s45.2.1,IntKind.i64.wrap (s45.2.2+1))))) else (some (.inr (s45.1,s45.2.1,s45.2.2))):Option (((List Bool)×(List Int)×Int)⊕((List Bool)×(List Int)×Int)))) N (s18.1,y34,0)).bind fun o111=>some (.inl (o111.1,o111.2.1))) else (some (.inr (s18.1,s18.2))):Option (((List Bool)×(List Int))⊕((List Bool)×(List Int)))))
    (fun s=>s.2.length+2 * rG s.1)
    (fun s=>s.1.length=10∧tm l now s.1∧s.1[0]?=some true∧s.2.length+rG s.1≤10∧(∀ y,y ∈ s.2→0≤y∧s.1[y.toNat]?=some true)∧∀ i:Nat,s.1[i]?=some true→(i:Int) ∈ s.2∨∀ y,y ∈ lk l (i:Int)→jM (nth l y) now=false→s.1[y.toNat]?=some true)
    (fun s=>s.1.length=10∧tm l now s.1∧s.1[0]?=some true∧xB l now s.1 s.1)
    (fun s hI=>by
      obtain ⟨r,t⟩:=s
      obtain ⟨i1,i2,i3,i4,i5,i6⟩:=hI
      simp only at i1 i2 i3 i4 i5 i6
      cases t with
      | nil=>exact .inr ⟨(r,[]),rfl,i1,i2,i3,fun i hi=>by have:=i6 i hi;simpa using this⟩
      | cons x t =>
        left
        obtain ⟨x0,xr⟩:=i5 x (by simp)
        have hx:Reaches l now x:=by have:=i2 x.toNat xr;rwa [show ((x.toNat:Nat):Int)=x by omega] at this
        obtain ⟨_,x9⟩:=hx.w8 h
        have hsub:sub (x::t) 1 ((x::t).length:Int)=some t:=by
          unfold sub
          rw [if_pos ⟨by omega,by simp only [List.length_cons];omega,Int.le_refl _⟩]
          simp
        obtain ⟨e1,e2⟩:=tN h x
        have hpos:decide (((x::t).length:Int) > 0)=true:=by simp
        obtain ⟨a1,a2,a3,a4,a5,a6,a7,a8⟩:=uX hx (lk l x) (r,t) (fun y hy=>⟨hy,e1 y hy⟩) i1 i2
        simp only [List.length_cons] at i4
        refine ⟨(lk l x).foldl (push l now) (r,t),?_,⟨a1,a2,a3 0 i3,by simp only at a4;omega,fun y hy=>?_,fun i hi=>?_⟩,?_⟩
        · simp only [hpos,cond_true]
          rw [show idx (x::t) 0=some x from rfl]
          simp only [Option.bind_some,hsub]
          rw [DR hN h x0 x9,Option.bind_some,EX hN h e1 e2 i1 (by omega)]
          rfl
        · rcases a7 y hy with q | q
          · obtain ⟨q1,q2⟩:=i5 y (by simp [show y ∈ t from q])
            exact ⟨q1,a3 _ q2⟩
          · exact q
        · rcases a8 i hi with q | q
          · rcases i6 i q with q | q
            · rcases List.mem_cons.1 q with q | q
              · rw [q];exact .inr a5
              · exact .inl (a6 _ q)
            · exact .inr fun y hy hyx=>a3 _ (q y hy hyx)
          · exact .inl q
        · simp only [List.length_cons] at a4 ⊢
          have hle:rG ((lk l x).foldl (push l now) (r,t)).1≤rG r:=by
            have:t.length≤((lk l x).foldl (push l now) (r,t)).2.length:=zA l now (lk l x) (r,t)
            omega
          omega)
    N ((List.replicate 10 false).set 0 true,[0]) ⟨rfl,Eh l now,rfl,by decide,fun y hy=>by simp at hy;subst hy;exact ⟨by decide,rfl⟩,fun i hi=>by
      rcases setAt hi with q | q
      · subst q;exact .inl (by simp)
      · rw [List.getElem?_replicate] at q;split at q <;> simp at q⟩ (by have:16777216≤N:=hN;simp only [show rG ((List.replicate 10 false).set 0 true)=9 from rfl,List.length_cons,List.length_nil];omega)
  rw [show ((List.replicate 10 false).set (0:Int).toNat true)=(List.replicate 10 false).set 0 true from rfl,hz,Option.bind_some]
  exact congrArg some (G8 (D0 h hz1 hz2 hz3 hz4) (Bg h now))
theorem nh {h:iv} (q:kq h=true):Ar h.ag:=by
  unfold kq at q
  simp only [Bool.and_eq_true] at q
  exact ko.1 q.1
def threads (p:gE) (now:Int):List Int:=if kh p then lR (fun k b=>b&&((nth p.heap.ag (k:Int)).kind==4)) (fun k _=>(k:Int)) 0 (reach p.heap.ag now) else []
theorem nB {p:gE} (h:kh p=true):Ar p.heap.ag:=by
  unfold kh kq at h
  simp only [Bool.and_eq_true] at h
  exact ko.1 h.2.2.2.1.1
theorem uB {p:gE} {now k:Int} (h:k ∈ threads p now):kh p=true∧0≤k∧k≤9:=by
  unfold threads at h
  split at h
  · rename_i hp
    obtain ⟨j,b,h1,_,h3⟩:=ui.1 h
    have:=ju h1
    rw [pV (nB hp)] at this
    have h3:k=((0+j:Nat):Int):=h3
    exact ⟨hp,by omega,by omega⟩
  · simp at h
theorem wR {N:Nat} (hN:im≤N) {l:List bh} (h:Ar l) {now:Int} {body:List Int×Int→Option ((List Int×Int)⊕(List Int×Int))}
    (hs:∀ (k:Nat) (t:List Int) (b:Bool),(reach l now)[k]?=some b→k<10→t.length≤k→body (t,(k:Int))=some (.inl (if b&&((nth l (k:Int)).kind==4) then t++[(k:Int)] else t,((k+1:Nat):Int))))
    (he:∀ t,body (t,10)=some (.inr (t,10))):iter body N ([],0)=some (lR (fun k b=>b&&((nth l (k:Int)).kind==4)) (fun k _=>(k:Int)) 0 (reach l now),10):=by
  have hl:=pV h now
  have e:((reach l now).length:Int)=10:=by omega
  rw [ru (reach l now) (fun k b=>b&&((nth l (k:Int)).kind==4)) (fun k _=>(k:Int)) (by rw [hl];decide) hN,e]
  · intro k t b hb hk ht
    exact hs k t b hb (by omega) ht
  · intro t;rw [e];exact he t
theorem DH {N:Nat} (hN:im≤N) {p:gE} (hb:jh p<im) (now:Int):qQ N p now=some (threads p now):=by
  unfold qQ threads
  rw [xj hN hb,Option.bind_some]
  cases hp:kh p
  · rfl
  have h:=nB hp
  have hl:=pV h now
  simp only [Bool.not_true,cond_false,Cy hN (ny hb).2.2.2.1,Option.bind_some,if_true]
  rw [wR hN h]
  · rfl
  · intro k t b hy hk ht
    have hd:decide ((k:Int)<((reach p.heap.ag now).length:Int))=true:=by simp;omega
    simp only [hd,cond_true]
    rw [(h.at (i:=(k:Int)) (by omega) (by omega)).1]
    simp only [iT,hy,Option.bind_some,k5,jx (show k<im from Nat.lt_trans hk (by decide)),kV ht (show k+1<im from Nat.lt_trans (Nat.succ_lt_succ hk) (by decide))]
    cases (b&&((nth p.heap.ag (k:Int)).kind==4)) <;> rfl
  · intro t
    simp only [hl];rfl
theorem DL {N:Nat} (hN:im≤N) {p:gE} (hb:jh p<im) (hw:wP p) (now:Int):qK N p now=some (threads p now):=by
  unfold qK threads
  rw [Ak hN hb hw,Option.bind_some]
  cases hp:kh p
  · rfl
  have h:=nB hp
  have hl:=pV h now
  simp only [Bool.not_true,cond_false,B8 hN (ny hb).2.2.2.1 hw,Option.bind_some,if_true]
  rw [wR hN h]
  · rfl
  · intro k t b hy hk ht
    have hd:decide ((k:Int)<((reach p.heap.ag now).length:Int))=true:=by simp;omega
    simp only [hd,cond_true]
    rw [(h.at (i:=(k:Int)) (by omega) (by omega)).1]
    simp only [iT,hy,Option.bind_some,k5,jx (show k<im from Nat.lt_trans hk (by decide)),kV ht (show k+1<im from Nat.lt_trans (Nat.succ_lt_succ hk) (by decide))]
    cases (b&&((nth p.heap.ag (k:Int)).kind==4)) <;> rfl
  · intro t
    simp only [hl];rfl
theorem w7 (p:gE) (now:Int):(threads p now).length<im:=by
  unfold threads
  split
  · rename_i hp
    refine Nat.lt_of_le_of_lt (wc _ _ _ _) ?_
    rw [pV (nB hp)];decide
  · decide
def n4 (p:gE) (now:Int) (th:Int):Bool:=(threads p now).contains th&&((nth p.heap.ag th).wait==0)
theorem yW {N:Nat} (hN:im≤N) {p:gE} (hb:jh p<im) (now th:Int):oY N p now th=some (n4 p now th):=by
  unfold oY n4
  simp only [DH hN hb,Option.bind_some,ss hN (w7 p now)]
  cases hc:(threads p now).contains th
  · rfl
  · obtain ⟨h1,h2,h3⟩:=uB (List.contains_iff_mem.1 hc)
    simp only [cond_true,((nB h1).at h2 h3).1,Option.bind_some,Bool.true_and]
theorem Ep {N:Nat} (hN:im≤N) {p:gE} (hb:jh p<im) (hw:wP p) (now th:Int):qA N p now th=some (n4 p now th):=by
  unfold qA n4
  simp only [DL hN hb hw,Option.bind_some,wm hN (w7 p now)]
  cases hc:(threads p now).contains th
  · rfl
  · obtain ⟨h1,h2,h3⟩:=uB (List.contains_iff_mem.1 hc)
    simp only [cond_true,((nB h1).at h2 h3).1,Option.bind_some,Bool.true_and]
end Go.Kx
/- Plain laws: sizes of what is right; a thing put into an ag; what is born. No program in sight. -/
namespace Go.Kx
open Go
set_option linter.unusedVariables false
set_option linter.unusedSimpArgs false
set_option maxRecDepth 10000
theorem tD {α:Type} {f:α→Nat} {c:Nat}:∀ {l:List α},(∀ y,y ∈ l→f y≤c)→nT f l≤c * l.length
  | [],_=>Nat.zero_le _
  | y::l,h=>by
    have h1:=h y (by simp)
    have h2:=tD (l:=l) fun z hz=>h z (by simp [hz])
    simp only [nT,List.length_cons,Nat.mul_add];omega
theorem AA {α:Type} {f:α→Nat} {y:α}:∀ {l:List α} {k:Nat},nT f (l.set k y)≤nT f l+f y
  | [],k=>by simp [nT]
  | z::l,0=>by simp only [List.set_cons_zero,nT];omega
  | z::l,k+1=>by
    have:=AA (f:=f) (y:=y) (l:=l) (k:=k)
    simp only [List.set_cons_succ,nT];omega
theorem wt {α:Type} {f:α→Nat} {y:α} {l:List α} {k:Nat}:jl f (l.set k y)≤jl f l+f y:=by
  have:=AA (f:=f) (y:=y) (l:=l) (k:=k)
  unfold jl
  simp only [List.length_set];omega
theorem Aj {o:bh} (h:kt o=true):iA o≤12:=by
  have hl:=(sV h).1
  unfold kt at h
  unfold iA
  cases hk:o.kind==0
  · simp only [hk,cond_false,Bool.and_eq_true] at h
    obtain ⟨_,_,_,_,_,hp,hl2,_⟩:=h
    unfold rA at hl2
    simp only [Bool.and_eq_true,decide_eq_true_eq,beq_iff_eq] at hl2
    obtain ⟨_,_,_,_,hd,hq⟩:=hl2
    rw [jv] at hp
    have:o.data.length≤8:=by
      cases h2:o.kind==2
      · rw [h2] at hd;simp only [cond_false] at hd;omega
      · rw [h2] at hd;simp only [cond_true] at hd;omega
    have:o.queue.length≤2:=by
      cases h3:o.kind==3
      · rw [h3] at hq;simp only [cond_false] at hq;omega
      · rw [h3] at hq;simp only [cond_true] at hq;omega
    omega
  · simp only [hk,cond_true,Bool.and_eq_true,decide_eq_true_eq] at h
    rw [h.2.2];simp [blank]
theorem Ar.sz {l:List bh} (h:Ar l):jl iA l≤130:=by
  have h1:=tD (f:=iA) (c:=12) fun y hy=>Aj (h.ok y hy)
  have h2:=h.len
  unfold jl
  rw [h2] at h1 ⊢
  omega
theorem kC {l:List bh} {k:Nat} {o:bh} (h:wA l) (ho:my o):wA (l.set k o):=fun y hy=>by
  rcases List.mem_or_eq_of_mem_set hy with q | q
  · exact h y q
  · rw [q];exact ho
def kl (o:bh) (g:Int):bh:=bh.mk g o.kind o.box o.res o.iL o.cd o.wait o.iK o.iM o.mark o.ig o.data o.queue
def putAt (l:List bh) (o:bh) (k:Nat) (x:bh):List bh×Int:=if ka (l.set k (kl o (IntKind.i64.wrap (x.gen+1))))&&(o.kind != 0) then (l.set k (kl o (IntKind.i64.wrap (x.gen+1))),(k:Int)) else (l, -1)
def ri (l:List bh) (o:bh):Nat→List bh→List bh×Int
  | _,[]=>(l, -1)
  | k,x::m=>if x.kind != 0 || decide (x.gen ≥ 999) then ri l o (k+1) m else putAt l o k x
def kf (l:List bh) (o:bh):List bh×Int:=if ka l then ri l o 1 (l.drop 1) else (l, -1)
theorem yc {l:List bh} {o:bh} (h:(o.kind != 0)=false):∀ (m:List bh) (k:Nat),ri l o k m=(l, -1)
  | [],k=>rfl
  | x::m,k=>by
    unfold ri putAt
    rw [h,yc h m]
    simp
theorem z4 {ρ:Type} {body:Int→Option (Int⊕ρ)} (l:List bh) (p:bh→Bool) (g:Nat→bh→ρ) (r:ρ) {N:Nat} (hN:l.length+1<N) (hl:1≤l.length)
    (hs:∀ (k:Nat) (x:bh),l[k]?=some x→1≤k→k<l.length→body (k:Int)=some (if p x then .inl ((k+1:Nat):Int) else .inr (g k x))) (he:body (l.length:Int)=some (.inr r)) :
    iter body N 1=some (lD (fun k (_:Unit) x=>if p x then .inl () else .inr (g (k+1) x)) (fun _=>r) 0 () (l.drop 1)):=by
  have hd:(l.drop 1).length+1=l.length:=by simp;omega
  rw [show (1:Int)=(fun (k:Nat) (_:Unit)=>((k+1:Nat):Int)) 0 () from rfl,
    mJ (l.drop 1) (fun (k:Nat) (_:Unit)=>((k+1:Nat):Int)) (fun k _ x=>if p x then .inl () else .inr (g (k+1) x)) (fun _=>r) (fun _ _=>True) ?_ ?_ (by omega) trivial]
  · intro k _ x hx hk _
    have hx:l[k+1]?=some x:=by rw [← hx,List.getElem?_drop,Nat.add_comm]
    refine ⟨?_,fun _ _=>trivial⟩
    show body ((k+1:Nat):Int)=_
    rw [hs (k+1) x hx (by omega) (by omega)]
    cases p x <;> rfl
  · intro _ _
    simp only [hd]
    exact he
theorem yL {ρ:Type} (l:List bh) (o:bh) (r:ρ) (c:ρ→Option (List bh×Int)) (g:Nat→bh→ρ) (hr:c r=some (l, -1)) (hg:∀ k x,c (g k x)=some (putAt l o k x)):∀ (m:List bh) (k:Nat),
    c (lD (fun k (_:Unit) x=>if x.kind != 0 || decide (x.gen ≥ 999) then .inl () else .inr (g (k+1) x)) (fun _=>r) k () m)=some (ri l o (k+1) m)
  | [],k=>hr
  | x::m,k=>by
    unfold lD ri
    cases h:(x.kind != 0 || decide (x.gen ≥ 999))
    · simp only [Bool.false_eq_true,if_false];exact hg _ _
    · simp only [if_true];exact yL l o r c g hr hg m (k+1)
theorem zz (o:bh) (g:Int):iA (kl o g)=iA o:=rfl
theorem vg {o:bh} {g:Int} (h:my o):my (kl o g):=h
theorem EJ {l:List bh} (h:Ar l) {o:bh} (ho:iA o≤100000) (k:Nat):jl iA (l.set k o)<im:=by
  have h1:=h.sz
  have h2:=wt (f:=iA) (y:=o) (l:=l) (k:=k)
  have:(16777216:Nat)=im:=rfl
  omega
theorem Da {N:Nat} (hN:im+1≤N) {l:List bh} (hb:jl iA l<im) {o:bh} (ho:iA o≤100000):pF N l o=some (kf l o):=by
  have hN':im≤N:=Nat.le_of_succ_le hN
  have hB:(16777216:Nat)=im:=rfl
  have hoB:iA o<im:=by omega
  unfold pF kf
  simp only [uu hN' hb,uo hN' hb,Option.bind_some,kO]
  cases ha:ka l
  · rfl
  have h:=ko.1 ha
  have hl:=h.len
  simp only [Bool.not_true,Bool.false_or,if_true]
  cases hk:(o.kind != 0)
  · rw [yc hk]
    have:(o.kind==0)=true:=by simpa [bne] using hk
    rw [this];rfl
  · have hk0:(o.kind==0)=false:=by simpa [bne] using hk
    simp only [hk0,cond_false]
    obtain ⟨M,rfl⟩:∃ M,N=M+1:=⟨N - 1,by omega⟩
    have hd:∀ k:Nat,k<l.length→decide ((k:Int)<(l.length:Int))=true:=fun k hk=>jt hk
    have h0:decide ((0:Int)<(l.length:Int))=true:=hd 0 (by omega)
    unfold iter
    simp only [h0,cond_true,(h.at (i:=0) (by omega) (by omega)).1,Option.bind_some,beq_self_eq_true,Bool.true_or,show IntKind.i64.wrap (0+1)=1 from by decide]
    rw [z4 l (fun x=>x.kind != 0 || decide (x.gen ≥ 999)) (fun k x=>if ka (l.set k (kl o (IntKind.i64.wrap (x.gen+1)))) then Sum.inr (l.set k (kl o (IntKind.i64.wrap (x.gen+1))),(k:Int)) else Sum.inr (l, -1)) (Sum.inl (l.length:Int)) (by omega) (by omega)]
    · simp only [Option.bind_some]
      exact yL l o (Sum.inl (l.length:Int)) (fun o73=>Sum.elim (fun o73=>some (l, -1)) (fun r76=>some r76) o73) (fun k x=>if ka (l.set k (kl o (IntKind.i64.wrap (x.gen+1)))) then Sum.inr (l.set k (kl o (IntKind.i64.wrap (x.gen+1))),(k:Int)) else Sum.inr (l, -1)) rfl (fun k x=>by
        unfold putAt
        rw [hk]
        cases ka (l.set k (kl o (IntKind.i64.wrap (x.gen+1)))) <;> rfl) _ 0
    · intro k x hx hk1 hkl
      have hne:((k:Int)==0)=false:=by simp;omega
      have e1:idx (l.set k o) (k:Int)=some o:=FG hkl
      simp only [hd k hkl,cond_true,iT,hx,Option.bind_some,hne,cond_false,kO,jx (show k<im by omega),uu hN' hb,zn hoB,Int.toNat_natCast,List.getElem?_set_self hkl,List.set_set]
      rw [show bh.mk (IntKind.i64.wrap (x.gen+1)) o.kind o.box o.res o.iL o.cd o.wait o.iK o.iM o.mark o.ig o.data o.queue=kl o (IntKind.i64.wrap (x.gen+1)) from rfl,uo hN' (EJ h (by rw [zz];exact ho) k)]
      cases (x.kind != 0 || decide (x.gen ≥ 999))
      · cases ka (l.set k (kl o (IntKind.i64.wrap (x.gen+1)))) <;> rfl
      · rfl
    · simp only [jr,cond_false]
theorem vm {N:Nat} (hN:im≤N) {l:List bh} (hb:jl iA l<im) (hw:wA l) {o:bh} (ho:iA o≤100000) (hwo:my o):mW N l o=some (kf l o):=by
  have hB:(16777216:Nat)=im:=rfl
  have hoB:iA o<im:=by omega
  unfold mW kf
  simp only [xi hN hb,pH hN hb hw,Option.bind_some]
  cases ha:ka l
  · rfl
  have h:=ko.1 ha
  have hl:=h.len
  simp only [Bool.not_true,cond_false,if_true]
  rw [z4 l (fun x=>x.kind != 0 || decide (x.gen ≥ 999)) (fun k x=>Sum.inr (putAt l o k x)) (Sum.inl (l.length:Int)) (by omega) (by omega)]
  · simp only [Option.bind_some]
    exact yL l o (Sum.inl (l.length:Int)) (fun o84=>Sum.elim (fun o84=>some (l, -1)) (fun r87=>some r87) o84) (fun k x=>Sum.inr (putAt l o k x)) rfl (fun k x=>rfl) _ 0
  · intro k x hx hk1 hkl
    simp only [jt hkl,cond_true,iT,hx,Option.bind_some,kO,jx (show k<im by omega),BV hoB,Int.toNat_natCast]
    rw [show bh.mk (IntKind.i64.wrap (x.gen+1)) o.kind o.box o.res o.iL o.cd o.wait o.iK o.iM o.mark o.ig o.data o.queue=kl o (IntKind.i64.wrap (x.gen+1)) from rfl,pH hN (EJ h (by rw [zz];exact ho) k) (kC hw (vg hwo))]
    simp only [Option.bind_some,kO]
    unfold putAt
    have hk:(o.kind==0)=!(o.kind != 0):=by simp [bne]
    rw [hk]
    cases (x.kind != 0 || decide (x.gen ≥ 999))
    · cases ka (l.set k (kl o (IntKind.i64.wrap (x.gen+1)))) <;> cases (o.kind != 0) <;> rfl
    · rfl
  · simp only [jr,cond_false]
def marked (o:bh) (m:Bool):bh:=bh.mk o.gen o.kind o.box o.res o.iL o.cd o.wait o.iK o.iM m o.ig o.data o.queue
def nn (h:iv) (i:Int):iv:=if kq h&&(iG i 0 9&&((nth h.ag i).kind != 0)) then iv.mk (h.ag.set i.toNat (marked (nth h.ag i) ((h.gc.phase==0) || decide (i ≥ h.gc.pos)))) h.gc else h
theorem ER {N:Nat} (hN:im≤N) {h:iv} (h1:jl iA h.ag<im) (h2:h.gc.ia.length<im) (i:Int):sj N h i=some (nn h i):=by
  unfold sj nn
  simp only [vq hN h1 h2,xz hN h1 h2,sO,Option.bind_some]
  cases q:kq h
  · rfl
  cases hi:iG i 0 9
  · rfl
  have hr:=jv.1 hi
  simp only [cond_true,((nh q).at hr.1 hr.2).1,Option.bind_some,Bool.true_and]
  cases (nth h.ag i).kind != 0
  · rfl
  · cases h.gc.phase==0 <;> rfl
theorem AF {N:Nat} (hN:im≤N) {h:iv} (h1:jl iA h.ag<im) (h2:h.gc.ia.length<im) (hw:wA h.ag) (i:Int):qm N h i=some (nn h i):=by
  unfold qm nn
  simp only [ue hN h1 h2,uY hN h1 h2 hw,rm,Option.bind_some,bne]
  cases q:kq h
  · rfl
  cases hi:iG i 0 9
  · rfl
  have hr:=jv.1 hi
  simp only [Bool.not_true,cond_false,((nh q).at hr.1 hr.2).1,Option.bind_some,Bool.true_and]
  cases (nth h.ag i).kind==0
  · cases h.gc.phase==0 <;> rfl
  · rfl
end Go.Kx
/- Plain laws: a new part. No program in sight. -/
namespace Go.Kx
open Go
set_option linter.unusedVariables false
set_option linter.unusedSimpArgs false
set_option maxRecDepth 10000
def pK:List bh:=(List.replicate 10 (blank 0)).set 0 (bh.mk 0 1 (-1) 0 1000000 0 0 0 0 false [-1, -1] [] [])
def uH:bh:=bh.mk 0 4 0 0 1000000 0 0 0 0 false [-1, -1] [] []
def yo:List bh:=pK.set 1 (kl uH 1)
def Ap:List bh:=pK.set 1 (marked (kl uH 1) true)
theorem xZ (N:Nat):pt N=some pK:=rfl
theorem Ba:kf pK uH=(yo,1):=by decide
theorem Dc:wA pK:=by
  intro o ho
  have:∀ o ∈ pK, -9223372036854775808≤o.wait:=by decide
  exact this o ho
theorem EO:wA yo:=by
  intro o ho
  have:∀ o ∈ yo, -9223372036854775808≤o.wait:=by decide
  exact this o ho
def sL:iv:=iv.mk Ap (jz.mk 0 0 0 [0])
theorem C2:nn (iv.mk yo (jz.mk 0 0 0 [0])) 1=sL:=by decide
def uT (a:iB):List iy:=(List.replicate 5 tS).set 0 (iy.mk true (-1) a)
theorem zB (N:Nat) (a:iB):oN N a=some (if je a then (uT a,true) else ([],false)):=by
  unfold oN
  rw [sK,Option.bind_some]
  cases je a <;> rfl
def HH:gE:=gE.mk (jC.mk []) [] [] (iv.mk [] (jz.mk 0 0 0 [])) [] 0 0 (iB.mk 0 0 0) 0 0
def sN (b:jY):gE:=gE.mk b.label b.own (uT b.jT) sL [] 0 0 (iB.mk 0 0 0) 0 0
def yP (b:jY):Bool:=je b.jT&&(jG b.label&&lE b.own)
def oR (b:jY):gE×Bool:=if yP b then (sN b,true) else (HH,false)
theorem DX:my uH:=by show (-9223372036854775808:Int)≤0;decide
theorem vo (b:jY):jh (sN b)=kI b+20:=by
  show lA b.label+(b.own.length+((uT b.jT).length+((jl iA sL.ag+((sL.gc.ia.length+0)+0))+(([]:List jy).length+0))))=lA b.label+(b.own.length+0)+20
  have h1:jl iA sL.ag=14:=by decide
  have h2:sL.gc.ia.length=1:=by decide
  have h3:(uT b.jT).length=5:=rfl
  have h4:([]:List jy).length=0:=rfl
  simp only [h1,h2,h3,h4]
  omega
theorem yN {N:Nat} (hN:im≤N) {b:jY} (hb:kI b≤1048576):o5 N b=some (oR b):=by
  have h1:b.label.levels.length<im∧b.own.length<im:=by have:(16777216:Nat)=im:=rfl;unfold kI lA at hb;omega
  unfold o5 oR yP
  simp only [zB,vK hN h1.1,yx hN h1.2,Option.bind_some,kO]
  cases je b.jT
  · cases jG b.label <;> cases lE b.own <;> rfl
  cases jG b.label
  · rfl
  cases lE b.own
  · rfl
  simp only [if_true,Bool.not_true,Bool.or_self,cond_false,Bool.and_self,xZ,Option.bind_some]
  rw [show bh.mk 0 4 0 0 1000000 0 0 0 0 false ([-1, -1]:List Int) [] []=uH from rfl,vm hN (by decide) Dc (by decide) DX,Ba]
  simp only [Option.bind_some]
  rw [show rn N=some (jz.mk 0 0 0 [0]) from rfl]
  simp only [Option.bind_some]
  rw [AF hN (by decide) (by decide) EO,C2]
  simp only [Option.bind_some]
  rw [show gE.mk b.label b.own (uT b.jT) sL [] 0 0 (iB.mk 0 0 0) 0 0=sN b from rfl,ze hN (by rw [vo];have:(16777216:Nat)=im:=rfl;omega)]
  rfl
end Go.Kx
/- The plain law of 'FnExactWorldNew'. No program in sight. -/
namespace Go.Kx
open Go
set_option linter.unusedVariables false
set_option linter.unusedSimpArgs false
set_option maxRecDepth 10000
def mV (b:List jY):List gE:=b.map fun x=>(oR x).1
def vk (b:List jY):jw:=if uN b then ⟨0,mV b⟩ else ⟨0,[]⟩
theorem FJ {N:Nat} (hN:im≤N) {b:List jY} (hl:b.length<im) {F:jY→Option (gE×Bool)} (hF:∀ y,y ∈ b→F y=some (oR y)) :
    iter (fun (s10:Int×(List gE))=>(bif (decide (s10.1<(b.length:Int))) then ((idx b s10.1).bind fun y13=>(F y13).bind fun y28=>(app s10.2 [y28.1]).bind fun y45=>some (.inl (IntKind.i64.wrap (s10.1+1),y45))) else (some (.inr (s10.1,s10.2))):Option ((Int×(List gE))⊕(Int×(List gE))))) N (0,[])=some ((b.length:Int),mV b):=by
  have e:∀ (l:List jY) (k:Nat) (acc:List gE),foldI (fun _ (acc:List gE) y=>acc++[(oR y).1]) k acc l=acc++mV l:=by
    intro l
    induction l with
    | nil=>intro k acc;simp [foldI,mV]
    | cons y l ih=>intro k acc;unfold foldI;rw [ih];simp [mV]
  rw [show ((0:Int),([]:List gE))=(fun (k:Nat) (t:List gE)=>((k:Int),t)) 0 [] from rfl,
    lB b (fun (k:Nat) (t:List gE)=>((k:Int),t)) (fun _ acc y=>acc++[(oR y).1]) (fun t=>((b.length:Int),t)) (fun k t=>t.length≤k) ?_ ?_ (Nat.lt_of_lt_of_le hl hN) (by simp),e]
  · simp
  · intro k t y hy hk ht
    refine ⟨?_,by simp;omega⟩
    simp only [jt hk,cond_true,iT,hy,Option.bind_some,hF y (List.mem_of_getElem? hy),jx (Nat.lt_trans hk hl),kV ht (Nat.lt_of_le_of_lt hk hl)]
  · intro t _
    simp only [jr,cond_false]
theorem CO {N:Nat} (hN:im≤N) {b:List jY} (hb:jl kI b≤1048576):pG N b=some (vk b):=by
  have hb':jl kI b<im:=small hb
  unfold pG vk
  rw [E5 hN hb',Option.bind_some]
  cases uN b
  · rfl
  · simp only [Bool.not_true,cond_false,if_true]
    rw [FJ hN (o7 hb') fun y hy=>yN hN (Nat.le_of_lt_succ (nS (Nat.lt_succ_of_le hb) hy))];rfl
end Go.Kx
