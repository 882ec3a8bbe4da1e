/- Plain laws: edges, what is reached, threads, who may call. No program in sight. -/
import Derived.Test.YtikeaiogpfjdnaaGreatLObj
namespace Go.Kx
open Go
set_option linter.unusedVariables false
set_option linter.unusedSimpArgs false
set_option maxRecDepth 10000
theorem Hl {σ ρ:Type} {body:σ→Option (σ⊕ρ)} (μ:σ→Nat) (I:σ→Prop) (Q:ρ→Prop) (h:∀ s,I s→(∃ s',body s=some (.inl s')∧I s'∧μ s'<μ s)∨∃ r,body s=some (.inr r)∧Q r):∀ (N:Nat) (s:σ),I s→μ s<N→∃ r,iter body N s=some r∧Q r
  | 0,s,_,hN=>by omega
  | N+1,s,hI,hN=>by
    unfold iter
    rcases h s hI with ⟨s',h1,h2,h3⟩ | ⟨r,h1,h2⟩
    · rw [h1];exact Hl μ I Q h N s' h2 (by omega)
    · rw [h1];exact ⟨r,rfl,h2⟩
theorem Bo {α β:Type} {p:Nat→α→Bool} {h:Nat→α→β} {z:β}:∀ {l:List α} {k:Nat},z ∈ tK p h k l ↔ ∃ (i:Nat) (y:α),l[i]?=some y∧p (k+i) y=true∧z=h (k+i) y
  | [],k=>by simp [tK]
  | y::l,k=>by
    have ih:=Bo (p:=p) (h:=h) (z:=z) (l:=l) (k:=k+1)
    have key:(∃ (i:Nat) (x:α),(y::l)[i]?=some x∧p (k+i) x=true∧z=h (k+i) x) ↔ (p k y=true∧z=h k y)∨z ∈ tK p h (k+1) l:=by
      rw [ih]
      constructor
      · rintro ⟨i,x,h1,h2,h3⟩
        cases i with
        | zero=>simp at h1;subst h1;exact .inl ⟨h2,h3⟩
        | succ i=>exact .inr ⟨i,x,by simpa using h1,by rwa [show k+1+i=k+(i+1) by omega],by rwa [show k+1+i=k+(i+1) by omega]⟩
      · rintro (⟨h2,h3⟩ | ⟨i,x,h1,h2,h3⟩)
        · exact ⟨0,y,rfl,h2,h3⟩
        · exact ⟨i+1,x,by simpa using h1,by rwa [show k+(i+1)=k+1+i by omega],by rwa [show k+(i+1)=k+1+i by omega]⟩
    rw [key,show tK p h k (y::l)=if p k y then h k y::tK p h (k+1) l else tK p h (k+1) l from rfl]
    cases hp:p k y <;> simp
structure Ar (l:List eg):Prop where
  len:l.length=10
  OH:(nth l 0).kind=1
  PK:(nth l 0).box=-1
  PF:(nth l 0).qp=1000000
  ok:∀ o,o ∈ l→sn o=true
  pS:∀ o,o ∈ l→∀ y,y ∈ o.pS→0≤y→(nth l y).kind ≠ 0
  box:∀ (k:Nat) (o:eg),l[k]?=some o→0<k→o.kind ≠ 0→0≤o.box→(nth l o.box).kind ≠ 0
theorem Jz {l:List eg} {k:Nat} {o:eg}:zw l k o=true ↔ sn o=true∧(0<k→o.kind ≠ 0→0≤o.box→(nth l o.box).kind ≠ 0)∧∀ y,y ∈ o.pS→0≤y→(nth l y).kind ≠ 0:=by
  unfold zw A2 Ag
  simp only [Bool.and_eq_true,List.all_eq_true,Bool.not_eq_true',Bool.and_eq_false_iff,decide_eq_false_iff_not,bne_eq_false_iff_eq,beq_eq_false_iff_ne,ne_eq]
  constructor
  · rintro ⟨⟨h1,h2⟩,h3⟩
    refine ⟨h1,fun a b c=>?_,fun y hy h0=>?_⟩
    · rcases h2 with q | q | q | q
      · omega
      · exact absurd q b
      · omega
      · exact q
    · rcases h3 y hy with q | q
      · omega
      · exact q
  · rintro ⟨h1,h2,h3⟩
    refine ⟨⟨h1,?_⟩,fun y hy=>?_⟩
    · by_cases a:0<k
      · by_cases b:o.kind=0
        · exact .inr (.inl b)
        · by_cases c:0≤o.box
          · exact .inr (.inr (.inr (h2 a b c)))
          · exact .inr (.inr (.inl (by omega)))
      · exact .inl (by omega)
    · by_cases c:0≤y
      · exact .inr (h3 y hy c)
      · exact .inl (by omega)
theorem sq {l:List eg}:rX l=true ↔ Ar l:=by
  unfold rX AT
  simp only [Bool.and_eq_true,Bool.not_eq_true',bne_eq_false_iff_eq,Bool.or_eq_false_iff,v5,Nat.zero_add,Jz]
  constructor
  · rintro ⟨h1,⟨h2,h3,h4⟩,h5⟩
    have hm:∀ o,o ∈ l→∃ k:Nat,l[k]?=some o:=fun o ho=>List.getElem?_of_mem ho
    refine ⟨by omega,h2,h3,h4,fun o ho=>?_,fun o ho=>?_,fun k o hk=>?_⟩
    · obtain ⟨k,hk⟩:=hm o ho;exact (h5 k o hk).1
    · obtain ⟨k,hk⟩:=hm o ho;exact (h5 k o hk).2.2
    · exact (h5 k o hk).2.1
  · intro h
    refine ⟨by have:=h.len;omega,⟨h.OH,h.PK,h.PF⟩,fun i y hy=>⟨h.ok y (List.mem_of_getElem? hy),h.box i y hy,h.pS y (List.mem_of_getElem? hy)⟩⟩
theorem Ar.at {l:List eg} (h:Ar l) {i:Int} (h0:0≤i) (h9:i≤9):idx l i=some (nth l i)∧nth l i ∈ l:=⟨rl h0 (by have:=h.len;omega),zJ h0 (by have:=h.len;omega)⟩
theorem Ar.CM {l:List eg} (h:Ar l):l.length<pR:=by rw [h.len];decide
def sy (o:eg) (now:Int):Bool:=bif o.kind==0 then true else decide (o.qp<now)
theorem KP (N:Nat) (o:eg) (now:Int):wJ N o now=some (sy o now):=vU _ _ _
theorem E6 (N:Nat) (o:eg) (now:Int):vx N o now=some (sy o now):=vU _ _ _
def DB (l:List eg) (i:Int) (k:Nat) (y:eg):Bool:=(decide ((k:Int) > 0)&&(y.kind != 0&&((y.box==i)&&((nth l i).kind==1)))) || (nth l i).pS.contains (k:Int)
def tx (l:List eg) (i:Int):List Int:=tK (DB l i) (fun k _=>(k:Int)) 0 l
theorem J3 {o:eg} (h:sn o=true):o.pS.length<pR:=Nat.lt_of_le_of_lt (z4 h).1 (by decide)
theorem Bu {l:List eg} {i k:Int} (h:k ∈ tx l i):0≤k∧k<(l.length:Int):=by
  obtain ⟨j,y,h1,_,h3⟩:=Bo.1 h
  have:=rj h1
  have h3:k=((0+j:Nat):Int):=h3
  omega
theorem JY (l:List eg) (i:Int):(tx l i).length≤l.length:=CG _ _ _ _
theorem JP {N:Nat} (hN:pR≤N) {l:List eg} (h:Ar l) {i:Int} (h0:0≤i) (h9:i≤9):wL N l i=some (tx l i):=by
  obtain ⟨q1,q2⟩:=h.at h0 h9
  have hB:=h.CM
  unfold wL tx
  rw [yS l (DB l i) (fun k _=>(k:Int)) hB hN]
  · rfl
  · intro k t y hy hk ht
    simp only [qS hk,cond_true,qx,hy,Option.bind_some,q1,zs hN (J3 (h.ok _ q2)),tD,sG,qV (Nat.lt_trans hk hB),uq ht (Nat.lt_of_le_of_lt hk hB)]
    show (bif DB l i k y then _ else _)=_
    cases DB l i k y <;> rfl
  · intro t
    simp only [qR,cond_false]
theorem Jx {l:List eg} (h:Ar l) {i:Int} (h0:0≤i) (h9:i≤9) (hk:(nth l i).kind=0):tx l i=[]:=by
  obtain ⟨_,q2⟩:=h.at h0 h9
  have hl:(nth l i).pS=[]:=by
    have:=h.ok _ q2
    unfold sn at this
    simp only [hk,beq_self_eq_true,cond_true,Bool.and_eq_true,decide_eq_true_eq] at this
    rw [this.2.2];rfl
  rw [List.eq_nil_iff_forall_not_mem]
  intro k hm
  obtain ⟨j,y,_,h2,_⟩:=Bo.1 hm
  simp [DB,hk,hl] at h2
theorem ML {N:Nat} (hN:pR≤N) {l:List eg} (hb:qZ qd l<pR) (hw:wA l) (h:Ar l) {i:Int} (h0:0≤i) (h9:i≤9):yE N l i=some (tx l i):=by
  obtain ⟨q1,q2⟩:=h.at h0 h9
  have hB:=h.CM
  have hi:qg i 0 9=true:=by rw [rL];omega
  unfold yE
  simp only [yW hN hb hw,sq.2 h,yz,hi,q1,Option.bind_some,Bool.not_true,cond_false]
  cases hk:(nth l i).kind==0
  · simp only [cond_false]
    unfold tx
    rw [yS l (DB l i) (fun k _=>(k:Int)) hB hN]
    · rfl
    · intro k t y hy hk ht
      simp only [qS hk,cond_true,qx,hy,Option.bind_some,BU hN (J3 (h.ok _ q2)),tD,sG,qV (Nat.lt_trans hk hB),uq ht (Nat.lt_of_le_of_lt hk hB)]
      unfold DB
      cases decide ((k:Int) > 0)
      · cases (nth l i).pS.contains (k:Int) <;> rfl
      cases y.kind != 0
      · cases (nth l i).pS.contains (k:Int) <;> rfl
      cases y.box==i
      · cases (nth l i).pS.contains (k:Int) <;> rfl
      · cases ((nth l i).kind==1) <;> cases (nth l i).pS.contains (k:Int) <;> rfl
    · intro t
      simp only [qR,cond_false]
  · rw [Jx h h0 h9 (by simpa using hk)];rfl
inductive Reaches (l:List eg) (now:Int):Int→Prop
  | root:Reaches l now 0
  | step {i k:Int}:Reaches l now i→k ∈ tx l i→sy (nth l k) now=false→Reaches l now k
theorem Reaches.Dt {l:List eg} {now:Int} (h:Ar l) {k:Int} (hr:Reaches l now k):0≤k∧k≤9:=by
  cases hr with
  | root=>omega
  | step _ h2 _=>have:=Bu h2;have:=h.len;omega
def yR:List Bool→Nat
  | []=>0
  | b::r=>(if b then 0 else 1)+yR r
theorem IA:∀ {r:List Bool} {k:Nat},r[k]?=some false→yR (r.set k true)+1=yR r
  | b::r,0,h=>by simp at h;subst h;simp [yR];omega
  | b::r,k+1,h=>by
    have:=IA (r:=r) (k:=k) (by simpa using h)
    simp only [List.set_cons_succ,yR];omega
def C4 (r q:List Bool):Prop:=∀ k:Nat,r[k]?=some true→q[k]?=some true
theorem G8:∀ {r q:List Bool},r.length=q.length→C4 r q→yR r≤yR q→r=q
  | [],[],_,_,_=>rfl
  | b::r,c::q,hl,h,hc=>by
    have hl':r.length=q.length:=by simpa using hl
    have h':C4 r q:=fun k hk=>by simpa using h (k+1) (by simpa using hk)
    have key:∀ {r q:List Bool},r.length=q.length→C4 r q→yR q≤yR r:=by
      intro r
      induction r with
      | nil=>intro q hl _;cases q with
        | nil=>exact Nat.le_refl _
        | cons=>simp at hl
      | cons b r ih =>
        intro q hl h
        cases q with
        | nil=>simp at hl
        | cons c q =>
          have:=ih (q:=q) (by simpa using hl) (fun k hk=>by simpa using h (k+1) (by simpa using hk))
          have h0:=h 0
          simp at h0
          simp only [yR]
          cases b <;> cases c <;> simp_all <;> omega
    have h0:=h 0
    simp at h0
    have:=key hl' h'
    simp only [yR] at hc
    cases b <;> cases c
    · exact congrArg _ (G8 hl' h' (by simpa using hc))
    · exfalso;simp at hc;omega
    · simp at h0
    · exact congrArg _ (G8 hl' h' (by simpa using hc))
theorem Iq {r:List Bool} {k:Nat}:C4 r (r.set k true):=fun j hj=>by
  rw [List.getElem?_set]
  split
  · rename_i e;subst e;rw [if_pos (rj hj)]
  · exact hj
theorem setAt {r:List Bool} {k j:Nat} (h:(r.set k true)[j]?=some true):j=k∨r[j]?=some true:=by
  rw [List.getElem?_set] at h
  split at h
  · exact .inl (by omega)
  · exact .inr h
def Bq (l:List eg) (now:Int) (r:List Bool) (y:Int):List Bool:=if sy (nth l y) now then r else r.set y.toNat true
def visit (l:List eg) (now:Int) (k:Nat) (r:List Bool) (o:eg):List Bool:=if !(nth r (k:Int)) || (sy o now&&decide ((k:Int) > 0)) then r else (tx l (k:Int)).foldl (Bq l now) r
def zV (l:List eg) (now:Int) (r:List Bool):List Bool:=foldI (visit l now) 0 r l
def xe (l:List eg) (now:Int):Nat→List Bool→List Bool
  | 0,r=>r
  | n+1,r=>xe l now n (zV l now r)
def reach (l:List eg) (now:Int):List Bool:=if rX l then xe l now 10 ((List.replicate 10 false).set 0 true) else []
theorem EM (l:List eg) (now:Int) (r:List Bool) (y:Int):(Bq l now r y).length=r.length:=by unfold Bq;split <;> simp
theorem GO (l:List eg) (now:Int):∀ (e:List Int) (r:List Bool),(e.foldl (Bq l now) r).length=r.length
  | [],r=>rfl
  | y::e,r=>by rw [List.foldl_cons,GO l now e,EM]
theorem Bp (l:List eg) (now:Int) (k:Nat) (r:List Bool) (o:eg):(visit l now k r o).length=r.length:=by
  unfold visit
  split
  · rfl
  · exact GO _ _ _ _
theorem M9 (l:List eg) (now:Int) (r:List Bool) (y:Int):C4 r (Bq l now r y):=by
  unfold Bq
  split
  · exact fun _ h=>h
  · exact Iq
theorem Eu (l:List eg) (now:Int):∀ (e:List Int) (r:List Bool),C4 r (e.foldl (Bq l now) r)
  | [],r=>fun _ h=>h
  | y::e,r=>fun k hk=>Eu l now e _ k (M9 l now r y k hk)
theorem GK (l:List eg) (now:Int) (k:Nat) (r:List Bool) (o:eg):C4 r (visit l now k r o):=by
  unfold visit
  split
  · exact fun _ h=>h
  · exact Eu _ _ _ _
theorem Ga (l:List eg) (now:Int):∀ (e:List Int) (r:List Bool),(∀ y,y ∈ e→y.toNat<r.length)→∀ y,y ∈ e→sy (nth l y) now=false→(e.foldl (Bq l now) r)[y.toNat]?=some true
  | z::e,r,hr,y,hy,hx=>by
    rw [List.foldl_cons]
    rcases List.mem_cons.1 hy with rfl | hy
    · refine Eu l now e _ _ ?_
      unfold Bq
      rw [if_neg (by simp [hx]),List.getElem?_set_self (hr y (by simp))]
    · exact Ga l now e _ (fun x h=>by rw [EM];exact hr x (by simp [h])) y hy hx
def Av (l:List eg) (now:Int) (r:List Bool):Prop:=∀ k:Nat,r[k]?=some true→Reaches l now (k:Int)
theorem Gc {l:List eg} {now i:Int} (hi:Reaches l now i):∀ (e:List Int) (r:List Bool),(∀ y,y ∈ e→y ∈ tx l i)→Av l now r→Av l now (e.foldl (Bq l now) r)
  | [],r,_,h=>h
  | y::e,r,he,h=>by
    rw [List.foldl_cons]
    refine Gc hi e _ (fun x hx=>he x (by simp [hx])) ?_
    unfold Bq
    split
    · exact h
    · rename_i hx
      intro k hk
      rcases setAt hk with q | q
      · have hy:=he y (by simp)
        have:=Bu hy
        have e:(k:Int)=y:=by omega
        rw [e]
        exact .step hi hy (by simpa using hx)
      · exact h k q
theorem Dz {r:List Bool} {k:Nat}:nth r (k:Int)=true ↔ r[k]?=some true:=by
  unfold nth
  rw [Int.toNat_natCast]
  cases h:r[k]? with
  | none=>simp;try rfl
  | some b=>simp
theorem CB {l:List eg} {now:Int} {k:Nat} {r:List Bool} {o:eg} (h:Av l now r):Av l now (visit l now k r o):=by
  unfold visit
  split
  · exact h
  · rename_i hc
    simp only [Bool.or_eq_true,Bool.not_eq_true',not_or,Bool.not_eq_false] at hc
    exact Gc (h k (Dz.1 hc.1)) _ _ (fun _ hy=>hy) h
theorem BH {l:List eg} {now:Int}:∀ (m:List eg) (k:Nat) (r:List Bool),Av l now r→(foldI (visit l now) k r m).length=r.length∧C4 r (foldI (visit l now) k r m)∧Av l now (foldI (visit l now) k r m)
  | [],k,r,h=>⟨rfl,fun _ h=>h,h⟩
  | o::m,k,r,h=>by
    obtain ⟨h1,h2,h3⟩:=BH m (k+1) (visit l now k r o) (CB h)
    exact ⟨by unfold foldI;rw [h1,Bp],fun j hj=>h2 j (GK l now k r o j hj),h3⟩
def Ef (l:List eg) (now:Int) (r q:List Bool):Prop:=∀ i:Nat,r[i]?=some true→∀ y,y ∈ tx l (i:Int)→sy (nth l y) now=false→q[y.toNat]?=some true
theorem Jb {l:List eg} {now:Int} (h:Ar l) {k:Int} (hr:Reaches l now k) (hk:k ≠ 0):sy (nth l k) now=false:=by
  cases hr with
  | root=>exact absurd rfl hk
  | step _ _ h3=>exact h3
theorem EX {l:List eg} {now:Int} (h:Ar l):∀ (m:List eg) (k:Nat) (r q:List Bool),(∀ j:Nat,m[j]?=l[k+j]?)→r.length=10→Av l now r→C4 q r→∀ i:Nat,k≤i→q[i]?=some true→∀ y,y ∈ tx l (i:Int)→sy (nth l y) now=false→(foldI (visit l now) k r m)[y.toNat]?=some true
  | [],k,r,q,hm,hr,hs,hq,i,hi,hqi,y,hy,hx=>by
    have:=(hs i (hq i hqi)).Dt h
    have h2:=hm (i - k)
    rw [show k+(i - k)=i by omega] at h2
    have:=h.len
    rw [List.getElem?_eq_getElem (show i<l.length by omega)] at h2
    simp at h2
  | o::m,k,r,q,hm,hr,hs,hq,i,hi,hqi,y,hy,hx=>by
    have ho:l[k]?=some o:=by have:=hm 0;simpa using this.symm
    unfold foldI
    rcases Nat.eq_or_lt_of_le hi with e | hlt
    · subst e
      refine (BH m (k+1) _ (CB hs)).2.1 _ ?_
      have hk:nth r (k:Int)=true:=Dz.2 (hq k hqi)
      have hn:(sy o now&&decide ((k:Int) > 0))=false:=by
        by_cases h0:k=0
        · subst h0;simp
        · have:=Jb h (hs k (hq k hqi)) (by omega)
          rw [Gt ho] at this
          simp [this]
      unfold visit
      rw [if_neg (by rw [hk,hn];decide)]
      exact Ga l now _ r (fun z hz=>by have:=Bu hz;have:=h.len;omega) y hy hx
    · exact EX h m (k+1) (visit l now k r o) q (fun j=>by have:=hm (j+1);rw [show k+1+j=k+(j+1) by omega, ← this];rfl) (by rw [Bp,hr]) (CB hs) (fun j hj=>GK l now k r o j (hq j hj)) i hlt hqi y hy hx
theorem CI {l:List eg} {now:Int} (h:Ar l):∀ (n:Nat) (r:List Bool),r.length=10→Av l now r→(xe l now n r).length=10∧C4 r (xe l now n r)∧Av l now (xe l now n r)∧(yR r<n→Ef l now (xe l now n r) (xe l now n r))
  | 0,r,hr,hs=>⟨hr,fun _ h=>h,hs,fun h=>by omega⟩
  | n+1,r,hr,hs=>by
    obtain ⟨p1,p2,p3⟩:=BH (l:=l) (now:=now) l 0 r hs
    have p4:=fun i hi=>EX h l 0 r r (fun j=>by rw [Nat.zero_add]) hr hs (fun _ h=>h) i (Nat.zero_le _) hi
    obtain ⟨q1,q2,q3,q4⟩:=CI h n (zV l now r) (by unfold zV;rw [p1,hr]) p3
    refine ⟨q1,fun k hk=>q2 k (p2 k hk),q3,fun hc=>?_⟩
    by_cases hcl:yR (zV l now r)<n
    · exact q4 hcl
    · have e:r=zV l now r:=G8 p1.symm p2 (by omega)
      have fix:∀ m,xe l now m r=r:=by
        intro m
        induction m with
        | zero=>rfl
        | succ m ih=>unfold xe;rw [← e,ih]
      rw [fix (n+1)]
      intro i hi y hy hx
      have:=p4 i hi y hy hx
      rwa [show foldI (visit l now) 0 r l=r from e.symm] at this
def LQ (l:List eg) (now:Int) (r:List Bool):Prop:=r.length=10∧∀ k:Nat,r[k]?=some true ↔ Reaches l now (k:Int)
theorem JV {l:List eg} {now:Int} (h:Ar l) {r:List Bool} (hl:r.length=10) (hs:Av l now r) (h0:r[0]?=some true) (hc:Ef l now r r):LQ l now r:=by
  refine ⟨hl,fun k=>⟨hs k,fun hr=>?_⟩⟩
  have key:∀ j:Int,Reaches l now j→r[j.toNat]?=some true:=by
    intro j hj
    induction hj with
    | root=>exact h0
    | step h1 h2 h3 ih =>
      rename_i i k
      have:=(Reaches.Dt h h1)
      refine hc i.toNat ih k ?_ h3
      rwa [show ((i.toNat:Nat):Int)=i by omega]
  simpa using key k hr
theorem Nu {l:List eg} {now:Int} {r q:List Bool} (h1:LQ l now r) (h2:LQ l now q):r=q:=by
  apply List.ext_getElem? fun k=>?_
  rcases Nat.lt_or_ge k 10 with hk | hk
  · have e:r[k]?=some true ↔ q[k]?=some true:=(h1.2 k).trans (h2.2 k).symm
    rw [List.getElem?_eq_getElem (by rw [h1.1];exact hk),List.getElem?_eq_getElem (by rw [h2.1];exact hk)] at e ⊢
    generalize r[k]'(by rw [h1.1];exact hk)=a at *
    generalize q[k]'(by rw [h2.1];exact hk)=b at *
    cases a <;> cases b <;> simp_all
  · rw [List.getElem?_eq_none (by rw [h1.1];exact hk),List.getElem?_eq_none (by rw [h2.1];exact hk)]
theorem Kt (l:List eg) (now:Int):Av l now ((List.replicate 10 false).set 0 true):=fun k hk=>by
  rcases setAt hk with q | q
  · subst q;exact .root
  · rw [List.getElem?_replicate] at q;split at q <;> simp at q
theorem Gi {l:List eg} (h:Ar l) (now:Int):LQ l now (reach l now):=by
  unfold reach
  rw [if_pos (sq.2 h)]
  obtain ⟨q1,q2,q3,q4⟩:=CI (now:=now) h 10 ((List.replicate 10 false).set 0 true) rfl (Kt l now)
  exact JV h q1 q3 (q2 0 rfl) (q4 (by decide))
theorem w7 {l:List eg} (h:Ar l) (now:Int):(reach l now).length=10:=(Gi h now).1
theorem CF {l:List eg} {now:Int}:∀ (m:List eg) (k:Nat) (r:List Bool),(foldI (visit l now) k r m).length=r.length
  | [],k,r=>rfl
  | o::m,k,r=>by unfold foldI;rw [CF m,Bp]
theorem MB {N:Nat} (hN:pR≤N) {l:List eg} (h:Ar l) {now:Int} {e:List Int} (he:∀ y,y ∈ e→0≤y∧y≤9) (hl:e.length≤10) {r:List Bool} (hr:r.length=10) :
    iter (fun (s67:(List Bool)×Int)=>(bif (decide (s67.2<(e.length:Int))) then ((idx e s67.2).bind fun y70=>(idx l y70).bind fun y83=>bif (!(sy y83 now)) then ((idx s67.1 y70).bind fun y104=>some (.inl (s67.1.set (y70:Int).toNat true,IntKind.i64.wrap (s67.2+1)))) else (some (.inl (s67.1,IntKind.i64.wrap (s67.2+1))))) else (some (.inr (s67.1,s67.2))):Option (((List Bool)×Int)⊕((List Bool)×Int)))) N (r,0)=some (e.foldl (Bq l now) r,(e.length:Int)):=by
  have hB:e.length<pR:=Nat.lt_of_le_of_lt hl (by decide)
  rw [show (r,(0:Int))=(fun (k:Nat) (t:List Bool)=>(t,(k:Int))) 0 r from rfl,
    tn e (fun (k:Nat) (t:List Bool)=>(t,(k:Int))) (fun _ t y=>Bq l now t y) (fun t=>(t,(e.length:Int))) (fun _ t=>t.length=10) ?_ ?_ (Nat.lt_of_lt_of_le hB hN) hr,uE]
  · intro k t y hy hk ht
    obtain ⟨y0,y9⟩:=he y (List.mem_of_getElem? hy)
    refine ⟨?_,by rw [EM,ht]⟩
    simp only [qS hk,cond_true,qx,hy,Option.bind_some,(h.at y0 y9).1,E6,qV (Nat.lt_trans hk hB),rl (l:=t) y0 (by omega)]
    unfold Bq
    cases sy (nth l y) now <;> rfl
  · intro t _
    simp only [qR,cond_false]
theorem DC {l:List eg} (h:Ar l) (i:Int):(∀ y,y ∈ tx l i→0≤y∧y≤9)∧(tx l i).length≤10:=by
  have:=h.len
  refine ⟨fun y hy=>by have:=Bu hy;omega,by have:=JY l i;omega⟩
theorem Ii {N:Nat} (hN:pR≤N) {l:List eg} (hb:qZ qd l<pR) (hw:wA l) (now:Int):yX N l now=some (reach l now):=by
  unfold yX reach
  rw [yW hN hb hw,Option.bind_some]
  cases ha:rX l
  · rfl
  have h:=sq.1 ha
  have hB:=h.CM
  simp only [Bool.not_true,cond_false,if_true]
  rw [show mk Bool 10=some (List.replicate 10 false) from rfl]
  simp only [Option.bind_some]
  rw [show idx (List.replicate 10 false) 0=some false from rfl]
  simp only [Option.bind_some]
  have hin:∀ r:List Bool,r.length=10→iter (fun (s21:(List Bool)×Int)=>(bif (decide (s21.2<(l.length:Int))) then (((idx s21.1 s21.2).bind fun y26=>bif (!y26) then (some true) else ((idx l s21.2).bind fun y40=>(vx N y40 now).bind fun y58=>bif y58 then (some (decide (s21.2 > 0))) else (some false)):Option Bool).bind fun j24=>bif j24 then (some (.inl (s21.1,IntKind.i64.wrap (s21.2+1)))) else ((yE N l s21.2).bind fun y63=>(iter (fun (s67:(List Bool)×Int)=>(bif (decide (s67.2<(y63.length:Int))) then ((idx y63 s67.2).bind fun y70=>(idx l y70).bind fun y83=>(vx N y83 now).bind fun y101=>bif (!y101) then ((idx s67.1 y70).bind fun y104=>some (.inl (s67.1.set (y70:Int).toNat true,IntKind.i64.wrap (s67.2+1)))) else (some (.inl (s67.1,IntKind.i64.wrap (s67.2+1))))) else (some (.inr (s67.1,s67.2))):Option (((List Bool)×Int)⊕((List Bool)×Int)))) N (s21.1,0)).bind fun o111=>some (.inl (o111.1,IntKind.i64.wrap (s21.2+1))))) else (some (.inr (s21.1,s21.2))):Option (((List Bool)×Int)⊕((List Bool)×Int)))) N (r,0)=some (zV l now r,(l.length:Int)):=by
    intro r hr
    rw [show (r,(0:Int))=(fun (k:Nat) (t:List Bool)=>(t,(k:Int))) 0 r from rfl,
      tn l (fun (k:Nat) (t:List Bool)=>(t,(k:Int))) (fun k t y=>visit l now k t y) (fun t=>(t,(l.length:Int))) (fun _ t=>t.length=10) ?_ ?_ (Nat.lt_of_lt_of_le hB hN) hr]
    · rfl
    · intro k t y hy hk ht
      have hk10:k<10:=by rw [← h.len];exact hk
      refine ⟨?_,by rw [Bp,ht]⟩
      simp only [qS hk,cond_true]
      rw [rl (l:=t) (i:=(k:Int)) (by omega) (by omega)]
      simp only [qx,hy,Option.bind_some,E6,qV (Nat.lt_trans hk hB)]
      rw [ML hN hb hw h (i:=(k:Int)) (by omega) (by omega),Option.bind_some,MB hN h (DC h _).1 (DC h _).2 ht]
      unfold visit
      cases nth t (k:Int) <;> cases sy y now <;> cases decide ((k:Int) > 0) <;> rfl
    · intro t _
      simp only [qR,cond_false]
  have hout:∀ (n:Nat) (j:Nat) (r:List Bool),r.length=10→foldI (fun _ t (_:Unit)=>zV l now t) j r (List.replicate n ())=xe l now n r:=by
    intro n
    induction n with
    | zero=>intro j r _;rfl
    | succ n ih=>intro j r hr;rw [List.replicate_succ];unfold foldI xe;exact ih _ _ (by
        have:=CF (l:=l) (now:=now) l 0 r
        unfold zV;rw [this,hr])
  rw [show (((List.replicate 10 false).set (0:Int).toNat true,(0:Int)):List Bool×Int)=(fun (k:Nat) (t:List Bool)=>(t,(k:Int))) 0 ((List.replicate 10 false).set 0 true) from rfl,
    tn (List.replicate 10 ()) (fun (k:Nat) (t:List Bool)=>(t,(k:Int))) (fun _ t _=>zV l now t) (fun t=>(t,(10:Int))) (fun _ t=>t.length=10) ?_ ?_ (NX (k:=0) hN (by decide)) rfl,hout 10 0 _ rfl]
  · rfl
  · intro k t y hy hk ht
    have hk:k<10:=by simpa using hk
    refine ⟨?_,by have:=CF (l:=l) (now:=now) l 0 t;unfold zV;rw [this,ht]⟩
    have h3:decide ((k:Int)<10)=true:=by simp;omega
    simp only [h3,cond_true]
    rw [hin t ht]
    simp only [Option.bind_some,qV (show k<pR from Nat.lt_trans hk (by decide))]
  · intro t _
    rfl
def push (l:List eg) (now:Int) (s:List Bool×List Int) (y:Int):List Bool×List Int:=if !(nth s.1 y)&&!sy (nth l y) now then (s.1.set y.toNat true,s.2++[y]) else s
theorem E8 {r:List Bool} {y:Int} (h0:0≤y):nth r y=true ↔ r[y.toNat]?=some true:=by
  have:=Dz (r:=r) (k:=y.toNat)
  rwa [show ((y.toNat:Nat):Int)=y by omega] at this
theorem Ce {l:List eg} {now i:Int} (hi:Reaches l now i):∀ (e:List Int) (s:List Bool×List Int),(∀ y,y ∈ e→y ∈ tx l i∧0≤y∧y≤9)→s.1.length=10→Av l now s.1 →
    let z:=e.foldl (push l now) s
    z.1.length=10∧Av l now z.1∧C4 s.1 z.1∧z.2.length+yR z.1=s.2.length+yR s.1∧(∀ y,y ∈ e→sy (nth l y) now=false→z.1[y.toNat]?=some true)∧(∀ y,y ∈ s.2→y ∈ z.2) ∧
      (∀ y,y ∈ z.2→y ∈ s.2∨(0≤y∧z.1[y.toNat]?=some true))∧(∀ k:Nat,z.1[k]?=some true→s.1[k]?=some true∨(k:Int) ∈ z.2)
  | [],s,_,h1,h2=>⟨h1,h2,fun _ h=>h,rfl,fun _ h=>absurd h (by simp),fun _ h=>h,fun _ h=>.inl h,fun _ h=>.inl h⟩
  | y::e,s,he,h1,h2=>by
    obtain ⟨e1,e2,e3⟩:=he y (by simp)
    have hlt:y.toNat<s.1.length:=by omega
    simp only [List.foldl_cons]
    by_cases hc:(!(nth s.1 y)&&!sy (nth l y) now)=true
    · have hp:push l now s y=(s.1.set y.toNat true,s.2++[y]):=by unfold push;rw [if_pos hc]
      simp only [Bool.and_eq_true,Bool.not_eq_true'] at hc
      have hf:s.1[y.toNat]?=some false:=by
        have:¬ s.1[y.toNat]?=some true:=fun q=>by rw [(E8 e2).2 q] at hc;simp at hc
        rw [List.getElem?_eq_getElem hlt] at this ⊢
        cases hb:s.1[y.toNat] <;> simp_all
      have hs:Av l now (s.1.set y.toNat true):=fun k hk=>by
        rcases setAt hk with q | q
        · have e:(k:Int)=y:=by omega
          rw [e];exact .step hi e1 hc.2
        · exact h2 k q
      rw [hp]
      obtain ⟨a1,a2,a3,a4,a5,a6,a7,a8⟩:=Ce hi e (s.1.set y.toNat true,s.2++[y]) (fun x hx=>he x (by simp [hx])) (by simpa using h1) hs
      have hy:(e.foldl (push l now) (s.1.set y.toNat true,s.2++[y])).1[y.toNat]?=some true:=a3 _ (List.getElem?_set_self hlt)
      refine ⟨a1,a2,fun k hk=>a3 k (Iq k hk),?_,fun x hx hxx=>?_,fun x hx=>a6 x (by simp [hx]),fun x hx=>?_,fun k hk=>?_⟩
      · have:=IA hf
        simp only [List.length_append,List.length_cons,List.length_nil] at a4
        omega
      · rcases List.mem_cons.1 hx with rfl | hx
        · exact hy
        · exact a5 x hx hxx
      · rcases a7 x hx with q | q
        · rcases List.mem_append.1 q with q | q
          · exact .inl q
          · simp at q;subst q;exact .inr ⟨e2,hy⟩
        · exact .inr q
      · rcases a8 k hk with q | q
        · rcases setAt q with q | q
          · refine .inr (a6 (k:Int) ?_)
            have e:(k:Int)=y:=by omega
            simp [e]
          · exact .inl q
        · exact .inr q
    · have hp:push l now s y=s:=by unfold push;rw [if_neg hc]
      rw [hp]
      obtain ⟨a1,a2,a3,a4,a5,a6,a7,a8⟩:=Ce hi e s (fun x hx=>he x (by simp [hx])) h1 h2
      refine ⟨a1,a2,a3,a4,fun x hx hxx=>?_,a6,a7,a8⟩
      rcases List.mem_cons.1 hx with rfl | hx
      · refine a3 _ ((E8 e2).1 ?_)
        cases hn:nth s.1 x
        · exact absurd (show (!(nth s.1 x)&&!sy (nth l x) now)=true by simp [hn,hxx]) hc
        · rfl
      · exact a5 x hx hxx
theorem E5 (l:List eg) (now:Int):∀ (e:List Int) (s:List Bool×List Int),s.2.length≤(e.foldl (push l now) s).2.length
  | [],s=>Nat.le_refl _
  | y::e,s=>by
    rw [List.foldl_cons]
    refine Nat.le_trans ?_ (E5 l now e _)
    unfold push;split <;> simp
theorem Ld {N:Nat} (hN:pR≤N) {l:List eg} (h:Ar l) {now:Int} {e:List Int} (he:∀ y,y ∈ e→0≤y∧y≤9) (hl:e.length≤10) {r:List Bool} (hr:r.length=10) {t:List Int} (ht:t.length≤100) :
    iter (fun (s45:(List Bool)×(List Int)×Int)=>(bif (decide (s45.2.2<(e.length:Int))) then ((idx e s45.2.2).bind fun y48=>((idx s45.1 y48).bind fun y63=>bif (!y63) then ((idx l y48).bind fun y77=>(wJ N y77 now).bind fun y95=>some (!y95)) else (some false):Option Bool).bind fun j61=>bif j61 then ((idx s45.1 y48).bind fun y99=>(app s45.2.1 [y48]).bind fun y106=>some (.inl (s45.1.set (y48:Int).toNat true,y106,IntKind.i64.wrap (s45.2.2+1)))) else (some (.inl (s45.1,s45.2.1,IntKind.i64.wrap (s45.2.2+1))))) else (some (.inr (s45.1,s45.2.1,s45.2.2))):Option (((List Bool)×(List Int)×Int)⊕((List Bool)×(List Int)×Int)))) N (r,t,0) =
      some ((e.foldl (push l now) (r,t)).1,(e.foldl (push l now) (r,t)).2,(e.length:Int)):=by
  have hB:e.length<pR:=Nat.lt_of_le_of_lt hl (by decide)
  rw [show (r,t,(0:Int))=(fun (k:Nat) (s:List Bool×List Int)=>(s.1,s.2,(k:Int))) 0 (r,t) from rfl,
    tn e (fun (k:Nat) (s:List Bool×List Int)=>(s.1,s.2,(k:Int))) (fun _ s y=>push l now s y) (fun s=>(s.1,s.2,(e.length:Int))) (fun k s=>s.1.length=10∧s.2.length≤100+k) ?_ ?_ (Nat.lt_of_lt_of_le hB hN) ⟨hr,ht⟩,uE]
  · intro k s y hy hk ⟨i1,i2⟩
    obtain ⟨y0,y9⟩:=he y (List.mem_of_getElem? hy)
    refine ⟨?_,by
      unfold push
      split
      · simp only [List.length_set,List.length_append,List.length_cons,List.length_nil];omega
      · omega⟩
    have hkB:100+k+1<pR:=by have:(16777216:Nat)=pR:=rfl;omega
    simp only [qS hk,cond_true,qx,hy,Option.bind_some,(h.at y0 y9).1,KP,qV (Nat.lt_trans hk hB),rl (l:=s.1) y0 (by omega),uq i2 hkB,tD]
    unfold push
    cases (!(nth s.1 y)&&!sy (nth l y) now) <;> rfl
  · intro s _
    simp only [qR,cond_false]
theorem IC {N:Nat} (hN:pR≤N) {l:List eg} (hb:qZ qd l<pR) (now:Int):yJ N l now=some (reach l now):=by
  unfold yJ
  rw [Bz hN hb,Option.bind_some]
  cases ha:rX l
  · unfold reach;rw [ha];rfl
  have h:=sq.1 ha
  simp only [Bool.not_true,cond_false]
  rw [show mk Bool 10=some (List.replicate 10 false) from rfl]
  simp only [Option.bind_some]
  rw [show idx (List.replicate 10 false) 0=some false from rfl]
  simp only [Option.bind_some]
  obtain ⟨z,hz,hz1,hz2,hz3,hz4⟩:=Hl (body:=fun (s18:(List Bool)×(List Int))=>(bif (decide ((s18.2.length:Int) > 0)) then ((idx s18.2 0).bind fun y21=>(sub s18.2 1 (s18.2.length:Int)).bind fun y34=>(wL N l y21).bind fun y41=>(iter (fun (s45:(List Bool)×(List Int)×Int)=>(bif (decide (s45.2.2<(y41.length:Int))) then ((idx y41 s45.2.2).bind fun y48=>((idx s45.1 y48).bind fun y63=>bif (!y63) then ((idx l y48).bind fun y77=>(wJ N y77 now).bind fun y95=>some (!y95)) else (some false):Option Bool).bind fun j61=>bif j61 then ((idx s45.1 y48).bind fun y99=>(app s45.2.1 [y48]).bind fun y106=>some (.inl (s45.1.set (y48:Int).toNat true,y106,IntKind.i64.wrap (s45.2.2+1)))) else (some (.inl (s45.1,s45.2.1,IntKind.i64.wrap (s45.2.2+1))))) else (some (.inr (s45.1,s45.2.1,s45.2.2))):Option (((List Bool)×(List Int)×Int)⊕((List Bool)×(List Int)×Int)))) N (s18.1,y34,0)).bind fun o111=>some (.inl (o111.1,o111.2.1))) else (some (.inr (s18.1,s18.2))):Option (((List Bool)×(List Int))⊕((List Bool)×(List Int)))))
    (fun s=>s.2.length+2 * yR s.1)
    (fun s=>s.1.length=10∧Av l now s.1∧s.1[0]?=some true∧s.2.length+yR s.1≤10∧(∀ y,y ∈ s.2→0≤y∧s.1[y.toNat]?=some true)∧∀ i:Nat,s.1[i]?=some true→(i:Int) ∈ s.2∨∀ y,y ∈ tx l (i:Int)→sy (nth l y) now=false→s.1[y.toNat]?=some true)
    (fun s=>s.1.length=10∧Av l now s.1∧s.1[0]?=some true∧Ef l now s.1 s.1)
    (fun s hI=>by
      obtain ⟨r,t⟩:=s
      obtain ⟨i1,i2,i3,i4,i5,i6⟩:=hI
      simp only at i1 i2 i3 i4 i5 i6
      cases t with
      | nil=>exact .inr ⟨(r,[]),rfl,i1,i2,i3,fun i hi=>by have:=i6 i hi;simpa using this⟩
      | cons x t =>
        left
        obtain ⟨x0,xr⟩:=i5 x (by simp)
        have hx:Reaches l now x:=by have:=i2 x.toNat xr;rwa [show ((x.toNat:Nat):Int)=x by omega] at this
        obtain ⟨_,x9⟩:=hx.Dt h
        have hsub:sub (x::t) 1 ((x::t).length:Int)=some t:=by
          unfold sub
          rw [if_pos ⟨by omega,by simp only [List.length_cons];omega,Int.le_refl _⟩]
          simp
        obtain ⟨e1,e2⟩:=DC h x
        have hpos:decide (((x::t).length:Int) > 0)=true:=by simp
        obtain ⟨a1,a2,a3,a4,a5,a6,a7,a8⟩:=Ce hx (tx l x) (r,t) (fun y hy=>⟨hy,e1 y hy⟩) i1 i2
        simp only [List.length_cons] at i4
        refine ⟨(tx l x).foldl (push l now) (r,t),?_,⟨a1,a2,a3 0 i3,by simp only at a4;omega,fun y hy=>?_,fun i hi=>?_⟩,?_⟩
        · simp only [hpos,cond_true]
          rw [show idx (x::t) 0=some x from rfl]
          simp only [Option.bind_some,hsub]
          rw [JP hN h x0 x9,Option.bind_some,Ld hN h e1 e2 i1 (by omega)]
          rfl
        · rcases a7 y hy with q | q
          · obtain ⟨q1,q2⟩:=i5 y (by simp [show y ∈ t from q])
            exact ⟨q1,a3 _ q2⟩
          · exact q
        · rcases a8 i hi with q | q
          · rcases i6 i q with q | q
            · rcases List.mem_cons.1 q with q | q
              · rw [q];exact .inr a5
              · exact .inl (a6 _ q)
            · exact .inr fun y hy hyx=>a3 _ (q y hy hyx)
          · exact .inl q
        · simp only [List.length_cons] at a4 ⊢
          have hle:yR ((tx l x).foldl (push l now) (r,t)).1≤yR r:=by
            have:t.length≤((tx l x).foldl (push l now) (r,t)).2.length:=E5 l now (tx l x) (r,t)
            omega
          omega)
    N ((List.replicate 10 false).set 0 true,[0]) ⟨rfl,Kt l now,rfl,by decide,fun y hy=>by simp at hy;subst hy;exact ⟨by decide,rfl⟩,fun i hi=>by
      rcases setAt hi with q | q
      · subst q;exact .inl (by simp)
      · rw [List.getElem?_replicate] at q;split at q <;> simp at q⟩ (by have:16777216≤N:=hN;simp only [show yR ((List.replicate 10 false).set 0 true)=9 from rfl,List.length_cons,List.length_nil];omega)
  rw [show ((List.replicate 10 false).set (0:Int).toNat true)=(List.replicate 10 false).set 0 true from rfl,hz,Option.bind_some]
  exact congrArg some (Nu (JV h hz1 hz2 hz3 hz4) (Gi h now))
theorem yL {h:qe} (q:tB h=true):Ar h.ag:=by
  unfold tB at q
  simp only [Bool.and_eq_true] at q
  exact sq.1 q.1
def threads (p:cd) (now:Int):List Int:=if rV p then tK (fun k b=>b&&((nth p.heap.ag (k:Int)).kind==4)) (fun k _=>(k:Int)) 0 (reach p.heap.ag now) else []
theorem uH {p:cd} (h:rV p=true):Ar p.heap.ag:=by
  unfold rV tB at h
  simp only [Bool.and_eq_true] at h
  exact sq.1 h.2.2.2.1.1
theorem BB {p:cd} {now k:Int} (h:k ∈ threads p now):rV p=true∧0≤k∧k≤9:=by
  unfold threads at h
  split at h
  · rename_i hp
    obtain ⟨j,b,h1,_,h3⟩:=Bo.1 h
    have:=rj h1
    rw [w7 (uH hp)] at this
    have h3:k=((0+j:Nat):Int):=h3
    exact ⟨hp,by omega,by omega⟩
  · simp at h
theorem Dq {N:Nat} (hN:pR≤N) {l:List eg} (h:Ar l) {now:Int} {body:List Int×Int→Option ((List Int×Int)⊕(List Int×Int))}
    (hs:∀ (k:Nat) (t:List Int) (b:Bool),(reach l now)[k]?=some b→k<10→t.length≤k→body (t,(k:Int))=some (.inl (if b&&((nth l (k:Int)).kind==4) then t++[(k:Int)] else t,((k+1:Nat):Int))))
    (he:∀ t,body (t,10)=some (.inr (t,10))):iter body N ([],0)=some (tK (fun k b=>b&&((nth l (k:Int)).kind==4)) (fun k _=>(k:Int)) 0 (reach l now),10):=by
  have hl:=w7 h now
  have e:((reach l now).length:Int)=10:=by omega
  rw [yS (reach l now) (fun k b=>b&&((nth l (k:Int)).kind==4)) (fun k _=>(k:Int)) (by rw [hl];decide) hN,e]
  · intro k t b hb hk ht
    exact hs k t b hb (by omega) ht
  · intro t;rw [e];exact he t
theorem JQ {N:Nat} (hN:pR≤N) {p:cd} (hb:qm p<pR) (now:Int):ym N p now=some (threads p now):=by
  unfold ym threads
  rw [DS hN hb,Option.bind_some]
  cases hp:rV p
  · rfl
  have h:=uH hp
  have hl:=w7 h now
  simp only [Bool.not_true,cond_false,IC hN (sc hb).2.2.2.1,Option.bind_some,if_true]
  rw [Dq hN h]
  · rfl
  · intro k t b hy hk ht
    have hd:decide ((k:Int)<((reach p.heap.ag now).length:Int))=true:=by simp;omega
    simp only [hd,cond_true]
    rw [(h.at (i:=(k:Int)) (by omega) (by omega)).1]
    simp only [qx,hy,Option.bind_some,tD,qV (show k<pR from Nat.lt_trans hk (by decide)),uq ht (show k+1<pR from Nat.lt_trans (Nat.succ_lt_succ hk) (by decide))]
    cases (b&&((nth p.heap.ag (k:Int)).kind==4)) <;> rfl
  · intro t
    simp only [hl];rfl
theorem Kg {N:Nat} (hN:pR≤N) {p:cd} (hb:qm p<pR) (hw:wP p) (now:Int):xU N p now=some (threads p now):=by
  unfold xU threads
  rw [DJ hN hb hw,Option.bind_some]
  cases hp:rV p
  · rfl
  have h:=uH hp
  have hl:=w7 h now
  simp only [Bool.not_true,cond_false,Ii hN (sc hb).2.2.2.1 hw,Option.bind_some,if_true]
  rw [Dq hN h]
  · rfl
  · intro k t b hy hk ht
    have hd:decide ((k:Int)<((reach p.heap.ag now).length:Int))=true:=by simp;omega
    simp only [hd,cond_true]
    rw [(h.at (i:=(k:Int)) (by omega) (by omega)).1]
    simp only [qx,hy,Option.bind_some,tD,qV (show k<pR from Nat.lt_trans hk (by decide)),uq ht (show k+1<pR from Nat.lt_trans (Nat.succ_lt_succ hk) (by decide))]
    cases (b&&((nth p.heap.ag (k:Int)).kind==4)) <;> rfl
  · intro t
    simp only [hl];rfl
theorem Dp (p:cd) (now:Int):(threads p now).length<pR:=by
  unfold threads
  split
  · rename_i hp
    refine Nat.lt_of_le_of_lt (CG _ _ _ _) ?_
    rw [w7 (uH hp)];decide
  · decide
def tG (p:cd) (now:Int) (th:Int):Bool:=(threads p now).contains th&&((nth p.heap.ag th).wait==0)
theorem ES {N:Nat} (hN:pR≤N) {p:cd} (hb:qm p<pR) (now th:Int):wT N p now th=some (tG p now th):=by
  unfold wT tG
  simp only [JQ hN hb,Option.bind_some,zs hN (Dp p now)]
  cases hc:(threads p now).contains th
  · rfl
  · obtain ⟨h1,h2,h3⟩:=BB (List.contains_iff_mem.1 hc)
    simp only [cond_true,((uH h1).at h2 h3).1,Option.bind_some,Bool.true_and]
theorem Fl {N:Nat} (hN:pR≤N) {p:cd} (hb:qm p<pR) (hw:wP p) (now th:Int):wI N p now th=some (tG p now th):=by
  unfold wI tG
  simp only [Kg hN hb hw,Option.bind_some,BU hN (Dp p now)]
  cases hc:(threads p now).contains th
  · rfl
  · obtain ⟨h1,h2,h3⟩:=BB (List.contains_iff_mem.1 hc)
    simp only [cond_true,((uH h1).at h2 h3).1,Option.bind_some,Bool.true_and]
end Go.Kx
/- Plain laws: sizes of what is right; a thing put into an ag; what is born. No program in sight. -/
namespace Go.Kx
open Go
set_option linter.unusedVariables false
set_option linter.unusedSimpArgs false
set_option maxRecDepth 10000
theorem Iz {α:Type} {f:α→Nat} {c:Nat}:∀ {l:List α},(∀ y,y ∈ l→f y≤c)→pQ f l≤c * l.length
  | [],_=>Nat.zero_le _
  | y::l,h=>by
    have h1:=h y (by simp)
    have h2:=Iz (l:=l) fun z hz=>h z (by simp [hz])
    simp only [pQ,List.length_cons,Nat.mul_add];omega
theorem Gx {α:Type} {f:α→Nat} {y:α}:∀ {l:List α} {k:Nat},pQ f (l.set k y)≤pQ f l+f y
  | [],k=>by simp [pQ]
  | z::l,0=>by simp only [List.set_cons_zero,pQ];omega
  | z::l,k+1=>by
    have:=Gx (f:=f) (y:=y) (l:=l) (k:=k)
    simp only [List.set_cons_succ,pQ];omega
theorem EC {α:Type} {f:α→Nat} {y:α} {l:List α} {k:Nat}:qZ f (l.set k y)≤qZ f l+f y:=by
  have:=Gx (f:=f) (y:=y) (l:=l) (k:=k)
  unfold qZ
  simp only [List.length_set];omega
theorem Gs {o:eg} (h:sn o=true):qd o≤12:=by
  have hl:=(z4 h).1
  unfold sn at h
  unfold qd
  cases hk:o.kind==0
  · simp only [hk,cond_false,Bool.and_eq_true] at h
    obtain ⟨_,_,_,_,_,hp,hl2,_⟩:=h
    unfold yH at hl2
    simp only [Bool.and_eq_true,decide_eq_true_eq,beq_iff_eq] at hl2
    obtain ⟨_,_,_,_,hd,hq⟩:=hl2
    rw [rL] at hp
    have:o.data.length≤8:=by
      cases h2:o.kind==2
      · rw [h2] at hd;simp only [cond_false] at hd;omega
      · rw [h2] at hd;simp only [cond_true] at hd;omega
    have:o.queue.length≤2:=by
      cases h3:o.kind==3
      · rw [h3] at hq;simp only [cond_false] at hq;omega
      · rw [h3] at hq;simp only [cond_true] at hq;omega
    omega
  · simp only [hk,cond_true,Bool.and_eq_true,decide_eq_true_eq] at h
    rw [h.2.2];simp [blank]
theorem Ar.sz {l:List eg} (h:Ar l):qZ qd l≤130:=by
  have h1:=Iz (f:=qd) (c:=12) fun y hy=>Gs (h.ok y hy)
  have h2:=h.len
  unfold qZ
  rw [h2] at h1 ⊢
  omega
theorem tA {l:List eg} {k:Nat} {o:eg} (h:wA l) (ho:xR o):wA (l.set k o):=fun y hy=>by
  rcases List.mem_or_eq_of_mem_set hy with q | q
  · exact h y q
  · rw [q];exact ho
def sD (o:eg) (g:Int):eg:=eg.mk g o.kind o.box o.res o.qp o.bh o.wait o.qo o.qq o.mark o.pS o.data o.queue
def putAt (l:List eg) (o:eg) (k:Nat) (x:eg):List eg×Int:=if rX (l.set k (sD o (IntKind.i64.wrap (x.gen+1))))&&(o.kind != 0) then (l.set k (sD o (IntKind.i64.wrap (x.gen+1))),(k:Int)) else (l, -1)
def AI (l:List eg) (o:eg):Nat→List eg→List eg×Int
  | _,[]=>(l, -1)
  | k,x::m=>if x.kind != 0 || decide (x.gen ≥ 999) then AI l o (k+1) m else putAt l o k x
def sB (l:List eg) (o:eg):List eg×Int:=if rX l then AI l o 1 (l.drop 1) else (l, -1)
theorem DZ {l:List eg} {o:eg} (h:(o.kind != 0)=false):∀ (m:List eg) (k:Nat),AI l o k m=(l, -1)
  | [],k=>rfl
  | x::m,k=>by
    unfold AI putAt
    rw [h,DZ h m]
    simp
theorem Hg {ρ:Type} {body:Int→Option (Int⊕ρ)} (l:List eg) (p:eg→Bool) (g:Nat→eg→ρ) (r:ρ) {N:Nat} (hN:l.length+1<N) (hl:1≤l.length)
    (hs:∀ (k:Nat) (x:eg),l[k]?=some x→1≤k→k<l.length→body (k:Int)=some (if p x then .inl ((k+1:Nat):Int) else .inr (g k x))) (he:body (l.length:Int)=some (.inr r)) :
    iter body N 1=some (tg (fun k (_:Unit) x=>if p x then .inl () else .inr (g (k+1) x)) (fun _=>r) 0 () (l.drop 1)):=by
  have hd:(l.drop 1).length+1=l.length:=by simp;omega
  rw [show (1:Int)=(fun (k:Nat) (_:Unit)=>((k+1:Nat):Int)) 0 () from rfl,
    uC (l.drop 1) (fun (k:Nat) (_:Unit)=>((k+1:Nat):Int)) (fun k _ x=>if p x then .inl () else .inr (g (k+1) x)) (fun _=>r) (fun _ _=>True) ?_ ?_ (by omega) trivial]
  · intro k _ x hx hk _
    have hx:l[k+1]?=some x:=by rw [← hx,List.getElem?_drop,Nat.add_comm]
    refine ⟨?_,fun _ _=>trivial⟩
    show body ((k+1:Nat):Int)=_
    rw [hs (k+1) x hx (by omega) (by omega)]
    cases p x <;> rfl
  · intro _ _
    simp only [hd]
    exact he
theorem EN {ρ:Type} (l:List eg) (o:eg) (r:ρ) (c:ρ→Option (List eg×Int)) (g:Nat→eg→ρ) (hr:c r=some (l, -1)) (hg:∀ k x,c (g k x)=some (putAt l o k x)):∀ (m:List eg) (k:Nat),
    c (tg (fun k (_:Unit) x=>if x.kind != 0 || decide (x.gen ≥ 999) then .inl () else .inr (g (k+1) x)) (fun _=>r) k () m)=some (AI l o (k+1) m)
  | [],k=>hr
  | x::m,k=>by
    unfold tg AI
    cases h:(x.kind != 0 || decide (x.gen ≥ 999))
    · simp only [Bool.false_eq_true,if_false];exact hg _ _
    · simp only [if_true];exact EN l o r c g hr hg m (k+1)
theorem Fo (o:eg) (g:Int):qd (sD o g)=qd o:=rfl
theorem DL {o:eg} {g:Int} (h:xR o):xR (sD o g):=h
theorem Lw {l:List eg} (h:Ar l) {o:eg} (ho:qd o≤100000) (k:Nat):qZ qd (l.set k o)<pR:=by
  have h1:=h.sz
  have h2:=EC (f:=qd) (y:=o) (l:=l) (k:=k)
  have:(16777216:Nat)=pR:=rfl
  omega
theorem IY {N:Nat} (hN:pR+1≤N) {l:List eg} (hb:qZ qd l<pR) {o:eg} (ho:qd o≤100000):xl N l o=some (sB l o):=by
  have hN':pR≤N:=Nat.le_of_succ_le hN
  have hB:(16777216:Nat)=pR:=rfl
  have hoB:qd o<pR:=by omega
  unfold xl sB
  simp only [BI hN' hb,Bz hN' hb,Option.bind_some,sG]
  cases ha:rX l
  · rfl
  have h:=sq.1 ha
  have hl:=h.len
  simp only [Bool.not_true,Bool.false_or,if_true]
  cases hk:(o.kind != 0)
  · rw [DZ hk]
    have:(o.kind==0)=true:=by simpa [bne] using hk
    rw [this];rfl
  · have hk0:(o.kind==0)=false:=by simpa [bne] using hk
    simp only [hk0,cond_false]
    obtain ⟨M,rfl⟩:∃ M,N=M+1:=⟨N - 1,by omega⟩
    have hd:∀ k:Nat,k<l.length→decide ((k:Int)<(l.length:Int))=true:=fun k hk=>qS hk
    have h0:decide ((0:Int)<(l.length:Int))=true:=hd 0 (by omega)
    unfold iter
    simp only [h0,cond_true,(h.at (i:=0) (by omega) (by omega)).1,Option.bind_some,beq_self_eq_true,Bool.true_or,show IntKind.i64.wrap (0+1)=1 from by decide]
    rw [Hg l (fun x=>x.kind != 0 || decide (x.gen ≥ 999)) (fun k x=>if rX (l.set k (sD o (IntKind.i64.wrap (x.gen+1)))) then Sum.inr (l.set k (sD o (IntKind.i64.wrap (x.gen+1))),(k:Int)) else Sum.inr (l, -1)) (Sum.inl (l.length:Int)) (by omega) (by omega)]
    · simp only [Option.bind_some]
      exact EN l o (Sum.inl (l.length:Int)) (fun o73=>Sum.elim (fun o73=>some (l, -1)) (fun r76=>some r76) o73) (fun k x=>if rX (l.set k (sD o (IntKind.i64.wrap (x.gen+1)))) then Sum.inr (l.set k (sD o (IntKind.i64.wrap (x.gen+1))),(k:Int)) else Sum.inr (l, -1)) rfl (fun k x=>by
        unfold putAt
        rw [hk]
        cases rX (l.set k (sD o (IntKind.i64.wrap (x.gen+1)))) <;> rfl) _ 0
    · intro k x hx hk1 hkl
      have hne:((k:Int)==0)=false:=by simp;omega
      have e1:idx (l.set k o) (k:Int)=some o:=Ij hkl
      simp only [hd k hkl,cond_true,qx,hx,Option.bind_some,hne,cond_false,sG,qV (show k<pR by omega),BI hN' hb,EY hoB,Int.toNat_natCast,List.getElem?_set_self hkl,List.set_set]
      rw [show eg.mk (IntKind.i64.wrap (x.gen+1)) o.kind o.box o.res o.qp o.bh o.wait o.qo o.qq o.mark o.pS o.data o.queue=sD o (IntKind.i64.wrap (x.gen+1)) from rfl,Bz hN' (Lw h (by rw [Fo];exact ho) k)]
      cases (x.kind != 0 || decide (x.gen ≥ 999))
      · cases rX (l.set k (sD o (IntKind.i64.wrap (x.gen+1)))) <;> rfl
      · rfl
    · simp only [qR,cond_false]
theorem I2 {N:Nat} (hN:pR≤N) {l:List eg} (hb:qZ qd l<pR) (hw:wA l) {o:eg} (ho:qd o≤100000) (hwo:xR o):xa N l o=some (sB l o):=by
  have hB:(16777216:Nat)=pR:=rfl
  have hoB:qd o<pR:=by omega
  unfold xa sB
  simp only [G9 hN hb,yW hN hb hw,Option.bind_some]
  cases ha:rX l
  · rfl
  have h:=sq.1 ha
  have hl:=h.len
  simp only [Bool.not_true,cond_false,if_true]
  rw [Hg l (fun x=>x.kind != 0 || decide (x.gen ≥ 999)) (fun k x=>Sum.inr (putAt l o k x)) (Sum.inl (l.length:Int)) (by omega) (by omega)]
  · simp only [Option.bind_some]
    exact EN l o (Sum.inl (l.length:Int)) (fun o84=>Sum.elim (fun o84=>some (l, -1)) (fun r87=>some r87) o84) (fun k x=>Sum.inr (putAt l o k x)) rfl (fun k x=>rfl) _ 0
  · intro k x hx hk1 hkl
    simp only [qS hkl,cond_true,qx,hx,Option.bind_some,sG,qV (show k<pR by omega),II hoB,Int.toNat_natCast]
    rw [show eg.mk (IntKind.i64.wrap (x.gen+1)) o.kind o.box o.res o.qp o.bh o.wait o.qo o.qq o.mark o.pS o.data o.queue=sD o (IntKind.i64.wrap (x.gen+1)) from rfl,yW hN (Lw h (by rw [Fo];exact ho) k) (tA hw (DL hwo))]
    simp only [Option.bind_some,sG]
    unfold putAt
    have hk:(o.kind==0)=!(o.kind != 0):=by simp [bne]
    rw [hk]
    cases (x.kind != 0 || decide (x.gen ≥ 999))
    · cases rX (l.set k (sD o (IntKind.i64.wrap (x.gen+1)))) <;> cases (o.kind != 0) <;> rfl
    · rfl
  · simp only [qR,cond_false]
def marked (o:eg) (m:Bool):eg:=eg.mk o.gen o.kind o.box o.res o.qp o.bh o.wait o.qo o.qq m o.pS o.data o.queue
def vz (h:qe) (i:Int):qe:=if tB h&&(qg i 0 9&&((nth h.ag i).kind != 0)) then qe.mk (h.ag.set i.toNat (marked (nth h.ag i) ((h.gc.phase==0) || decide (i ≥ h.gc.pos)))) h.gc else h
theorem Ln {N:Nat} (hN:pR≤N) {h:qe} (h1:qZ qd h.ag<pR) (h2:h.gc.j8.length<pR) (i:Int):zu N h i=some (vz h i):=by
  unfold zu vz
  simp only [Ct hN h1 h2,DI hN h1 h2,zT,Option.bind_some]
  cases q:tB h
  · rfl
  cases hi:qg i 0 9
  · rfl
  have hr:=rL.1 hi
  simp only [cond_true,((yL q).at hr.1 hr.2).1,Option.bind_some,Bool.true_and]
  cases (nth h.ag i).kind != 0
  · rfl
  · cases h.gc.phase==0 <;> rfl
theorem Lo {N:Nat} (hN:pR≤N) {h:qe} (h1:qZ qd h.ag<pR) (h2:h.gc.j8.length<pR) (hw:wA h.ag) (i:Int):zn N h i=some (vz h i):=by
  unfold zn vz
  simp only [CY hN h1 h2,DD hN h1 h2 hw,yz,Option.bind_some,bne]
  cases q:tB h
  · rfl
  cases hi:qg i 0 9
  · rfl
  have hr:=rL.1 hi
  simp only [Bool.not_true,cond_false,((yL q).at hr.1 hr.2).1,Option.bind_some,Bool.true_and]
  cases (nth h.ag i).kind==0
  · cases h.gc.phase==0 <;> rfl
  · rfl
end Go.Kx
