/- Plain laws: edges, what is reached, threads, who may call. No program in sight. -/
import Derived.Test.YtdlodpchnaojhaaGreatLTree
namespace Go.Kx
open Go
set_option linter.unusedVariables false
set_option linter.unusedSimpArgs false
set_option maxRecDepth 10000
theorem B1 {σ ρ:Type} {body:σ→Option (σ⊕ρ)} (μ:σ→Nat) (I:σ→Prop) (Q:ρ→Prop) (h:∀ s,I s→(∃ s',body s=some (.inl s')∧I s'∧μ s'<μ s)∨∃ r,body s=some (.inr r)∧Q r):∀ (N:Nat) (s:σ),I s→μ s<N→∃ r,iter body N s=some r∧Q r
  | 0,s,_,hN=>by omega
  | N+1,s,hI,hN=>by
    unfold iter
    rcases h s hI with ⟨s',h1,h2,h3⟩ | ⟨r,h1,h2⟩
    · rw [h1];exact B1 μ I Q h N s' h2 (by omega)
    · rw [h1];exact ⟨r,rfl,h2⟩
theorem ug {α β:Type} {p:Nat→α→Bool} {h:Nat→α→β} {z:β}:∀ {l:List α} {k:Nat},z ∈ kE p h k l ↔ ∃ (i:Nat) (y:α),l[i]?=some y∧p (k+i) y=true∧z=h (k+i) y
  | [],k=>by simp [kE]
  | y::l,k=>by
    have ih:=ug (p:=p) (h:=h) (z:=z) (l:=l) (k:=k+1)
    have key:(∃ (i:Nat) (x:α),(y::l)[i]?=some x∧p (k+i) x=true∧z=h (k+i) x) ↔ (p k y=true∧z=h k y)∨z ∈ kE p h (k+1) l:=by
      rw [ih]
      constructor
      · rintro ⟨i,x,h1,h2,h3⟩
        cases i with
        | zero=>simp at h1;subst h1;exact .inl ⟨h2,h3⟩
        | succ i=>exact .inr ⟨i,x,by simpa using h1,by rwa [show k+1+i=k+(i+1) by omega],by rwa [show k+1+i=k+(i+1) by omega]⟩
      · rintro (⟨h2,h3⟩ | ⟨i,x,h1,h2,h3⟩)
        · exact ⟨0,y,rfl,h2,h3⟩
        · exact ⟨i+1,x,by simpa using h1,by rwa [show k+(i+1)=k+1+i by omega],by rwa [show k+(i+1)=k+1+i by omega]⟩
    rw [key,show kE p h k (y::l)=if p k y then h k y::kE p h (k+1) l else kE p h (k+1) l from rfl]
    cases hp:p k y <;> simp
structure Ar (l:List cd):Prop where
  len:l.length=10
  tO:(nth l 0).kind=1
  Cl:(nth l 0).box=-1
  B5:(nth l 0).iU=1000000
  ok:∀ o,o ∈ l→jt o=true
  il:∀ o,o ∈ l→∀ y,y ∈ o.il→0≤y→(nth l y).kind ≠ 0
  box:∀ (k:Nat) (o:cd),l[k]?=some o→0<k→o.kind ≠ 0→0≤o.box→(nth l o.box).kind ≠ 0
theorem E7 {l:List cd} {k:Nat} {o:cd}:tq l k o=true ↔ jt o=true∧(0<k→o.kind ≠ 0→0≤o.box→(nth l o.box).kind ≠ 0)∧∀ y,y ∈ o.il→0≤y→(nth l y).kind ≠ 0:=by
  unfold tq va tY
  simp only [Bool.and_eq_true,List.all_eq_true,Bool.not_eq_true',Bool.and_eq_false_iff,decide_eq_false_iff_not,bne_eq_false_iff_eq,beq_eq_false_iff_ne,ne_eq]
  constructor
  · rintro ⟨⟨h1,h2⟩,h3⟩
    refine ⟨h1,fun a b c=>?_,fun y hy h0=>?_⟩
    · rcases h2 with q | q | q | q
      · omega
      · exact absurd q b
      · omega
      · exact q
    · rcases h3 y hy with q | q
      · omega
      · exact q
  · rintro ⟨h1,h2,h3⟩
    refine ⟨⟨h1,?_⟩,fun y hy=>?_⟩
    · by_cases a:0<k
      · by_cases b:o.kind=0
        · exact .inr (.inl b)
        · by_cases c:0≤o.box
          · exact .inr (.inr (.inr (h2 a b c)))
          · exact .inr (.inr (.inl (by omega)))
      · exact .inl (by omega)
    · by_cases c:0≤y
      · exact .inr (h3 y hy c)
      · exact .inl (by omega)
theorem kf {l:List cd}:kI l=true ↔ Ar l:=by
  unfold kI uN
  simp only [Bool.and_eq_true,Bool.not_eq_true',bne_eq_false_iff_eq,Bool.or_eq_false_iff,mB,Nat.zero_add,E7]
  constructor
  · rintro ⟨h1,⟨h2,h3,h4⟩,h5⟩
    have hm:∀ o,o ∈ l→∃ k:Nat,l[k]?=some o:=fun o ho=>List.getElem?_of_mem ho
    refine ⟨by omega,h2,h3,h4,fun o ho=>?_,fun o ho=>?_,fun k o hk=>?_⟩
    · obtain ⟨k,hk⟩:=hm o ho;exact (h5 k o hk).1
    · obtain ⟨k,hk⟩:=hm o ho;exact (h5 k o hk).2.2
    · exact (h5 k o hk).2.1
  · intro h
    refine ⟨by have:=h.len;omega,⟨h.tO,h.Cl,h.B5⟩,fun i y hy=>⟨h.ok y (List.mem_of_getElem? hy),h.box i y hy,h.il y (List.mem_of_getElem? hy)⟩⟩
theorem Ar.at {l:List cd} (h:Ar l) {i:Int} (h0:0≤i) (h9:i≤9):idx l i=some (nth l i)∧nth l i ∈ l:=⟨jC h0 (by have:=h.len;omega),kT h0 (by have:=h.len;omega)⟩
theorem Ar.vM {l:List cd} (h:Ar l):l.length<im:=by rw [h.len];decide
def jy (o:cd) (now:Int):Bool:=bif o.kind==0 then true else decide (o.iU<now)
theorem vo (N:Nat) (o:cd) (now:Int):mF N o now=some (jy o now):=qx _ _ _
theorem ua (N:Nat) (o:cd) (now:Int):mi N o now=some (jy o now):=qx _ _ _
def wz (l:List cd) (i:Int) (k:Nat) (y:cd):Bool:=(decide ((k:Int) > 0)&&(y.kind != 0&&((y.box==i)&&((nth l i).kind==1)))) || (nth l i).il.contains (k:Int)
def lE (l:List cd) (i:Int):List Int:=kE (wz l i) (fun k _=>(k:Int)) 0 l
theorem Gd {o:cd} (h:jt o=true):o.il.length<im:=Nat.lt_of_le_of_lt (pL h).1 (by decide)
theorem uf {l:List cd} {i k:Int} (h:k ∈ lE l i):0≤k∧k<(l.length:Int):=by
  obtain ⟨j,y,h1,_,h3⟩:=ug.1 h
  have:=jv h1
  have h3:k=((0+j:Nat):Int):=h3
  omega
theorem Gt (l:List cd) (i:Int):(lE l i).length≤l.length:=vB _ _ _ _
theorem Bc {N:Nat} (hN:im≤N) {l:List cd} (h:Ar l) {i:Int} (h0:0≤i) (h9:i≤9):oe N l i=some (lE l i):=by
  obtain ⟨q1,q2⟩:=h.at h0 h9
  have hB:=h.vM
  unfold oe lE
  rw [oQ l (wz l i) (fun k _=>(k:Int)) hB hN]
  · rfl
  · intro k t y hy hk ht
    simp only [jh hk,cond_true,iO,hy,Option.bind_some,q1,wj hN (Gd (h.ok _ q2)),lK,lN,jm (Nat.lt_trans hk hB),lj ht (Nat.lt_of_le_of_lt hk hB)]
    show (bif wz l i k y then _ else _)=_
    cases wz l i k y <;> rfl
  · intro t
    simp only [jg,cond_false]
theorem FF {l:List cd} (h:Ar l) {i:Int} (h0:0≤i) (h9:i≤9) (hk:(nth l i).kind=0):lE l i=[]:=by
  obtain ⟨_,q2⟩:=h.at h0 h9
  have hl:(nth l i).il=[]:=by
    have:=h.ok _ q2
    unfold jt at this
    simp only [hk,beq_self_eq_true,cond_true,Bool.and_eq_true,decide_eq_true_eq] at this
    rw [this.2.2];rfl
  rw [List.eq_nil_iff_forall_not_mem]
  intro k hm
  obtain ⟨j,y,_,h2,_⟩:=ug.1 hm
  simp [wz,hk,hl] at h2
theorem El {N:Nat} (hN:im≤N) {l:List cd} (hb:jo iz l<im) (hw:wA l) (h:Ar l) {i:Int} (h0:0≤i) (h9:i≤9):qh N l i=some (lE l i):=by
  obtain ⟨q1,q2⟩:=h.at h0 h9
  have hB:=h.vM
  have hi:iE i 0 9=true:=by rw [i7];omega
  unfold qh
  simp only [qB hN hb hw,kf.2 h,sj,hi,q1,Option.bind_some,Bool.not_true,cond_false]
  cases hk:(nth l i).kind==0
  · simp only [cond_false]
    unfold lE
    rw [oQ l (wz l i) (fun k _=>(k:Int)) hB hN]
    · rfl
    · intro k t y hy hk ht
      simp only [jh hk,cond_true,iO,hy,Option.bind_some,x7 hN (Gd (h.ok _ q2)),lK,lN,jm (Nat.lt_trans hk hB),lj ht (Nat.lt_of_le_of_lt hk hB)]
      unfold wz
      cases decide ((k:Int) > 0)
      · cases (nth l i).il.contains (k:Int) <;> rfl
      cases y.kind != 0
      · cases (nth l i).il.contains (k:Int) <;> rfl
      cases y.box==i
      · cases (nth l i).il.contains (k:Int) <;> rfl
      · cases ((nth l i).kind==1) <;> cases (nth l i).il.contains (k:Int) <;> rfl
    · intro t
      simp only [jg,cond_false]
  · rw [FF h h0 h9 (by simpa using hk)];rfl
inductive Reaches (l:List cd) (now:Int):Int→Prop
  | root:Reaches l now 0
  | step {i k:Int}:Reaches l now i→k ∈ lE l i→jy (nth l k) now=false→Reaches l now k
theorem Reaches.xk {l:List cd} {now:Int} (h:Ar l) {k:Int} (hr:Reaches l now k):0≤k∧k≤9:=by
  cases hr with
  | root=>omega
  | step _ h2 _=>have:=uf h2;have:=h.len;omega
def sN:List Bool→Nat
  | []=>0
  | b::r=>(if b then 0 else 1)+sN r
theorem DX:∀ {r:List Bool} {k:Nat},r[k]?=some false→sN (r.set k true)+1=sN r
  | b::r,0,h=>by simp at h;subst h;simp [sN];omega
  | b::r,k+1,h=>by
    have:=DX (r:=r) (k:=k) (by simpa using h)
    simp only [List.set_cons_succ,sN];omega
def xj (r q:List Bool):Prop:=∀ k:Nat,r[k]?=some true→q[k]?=some true
theorem BL:∀ {r q:List Bool},r.length=q.length→xj r q→sN r≤sN q→r=q
  | [],[],_,_,_=>rfl
  | b::r,c::q,hl,h,hc=>by
    have hl':r.length=q.length:=by simpa using hl
    have h':xj r q:=fun k hk=>by simpa using h (k+1) (by simpa using hk)
    have key:∀ {r q:List Bool},r.length=q.length→xj r q→sN q≤sN r:=by
      intro r
      induction r with
      | nil=>intro q hl _;cases q with
        | nil=>exact Nat.le_refl _
        | cons=>simp at hl
      | cons b r ih =>
        intro q hl h
        cases q with
        | nil=>simp at hl
        | cons c q =>
          have:=ih (q:=q) (by simpa using hl) (fun k hk=>by simpa using h (k+1) (by simpa using hk))
          have h0:=h 0
          simp at h0
          simp only [sN]
          cases b <;> cases c <;> simp_all <;> omega
    have h0:=h 0
    simp at h0
    have:=key hl' h'
    simp only [sN] at hc
    cases b <;> cases c
    · exact congrArg _ (BL hl' h' (by simpa using hc))
    · exfalso;simp at hc;omega
    · simp at h0
    · exact congrArg _ (BL hl' h' (by simpa using hc))
theorem Ew {r:List Bool} {k:Nat}:xj r (r.set k true):=fun j hj=>by
  rw [List.getElem?_set]
  split
  · rename_i e;subst e;rw [if_pos (jv hj)]
  · exact hj
theorem setAt {r:List Bool} {k j:Nat} (h:(r.set k true)[j]?=some true):j=k∨r[j]?=some true:=by
  rw [List.getElem?_set] at h
  split at h
  · exact .inl (by omega)
  · exact .inr h
def vw (l:List cd) (now:Int) (r:List Bool) (y:Int):List Bool:=if jy (nth l y) now then r else r.set y.toNat true
def visit (l:List cd) (now:Int) (k:Nat) (r:List Bool) (o:cd):List Bool:=if !(nth r (k:Int)) || (jy o now&&decide ((k:Int) > 0)) then r else (lE l (k:Int)).foldl (vw l now) r
def tP (l:List cd) (now:Int) (r:List Bool):List Bool:=foldI (visit l now) 0 r l
def qz (l:List cd) (now:Int):Nat→List Bool→List Bool
  | 0,r=>r
  | n+1,r=>qz l now n (tP l now r)
def reach (l:List cd) (now:Int):List Bool:=if kI l then qz l now 10 ((List.replicate 10 false).set 0 true) else []
theorem Ae (l:List cd) (now:Int) (r:List Bool) (y:Int):(vw l now r y).length=r.length:=by unfold vw;split <;> simp
theorem C4 (l:List cd) (now:Int):∀ (e:List Int) (r:List Bool),(e.foldl (vw l now) r).length=r.length
  | [],r=>rfl
  | y::e,r=>by rw [List.foldl_cons,C4 l now e,Ae]
theorem vu (l:List cd) (now:Int) (k:Nat) (r:List Bool) (o:cd):(visit l now k r o).length=r.length:=by
  unfold visit
  split
  · rfl
  · exact C4 _ _ _ _
theorem Km (l:List cd) (now:Int) (r:List Bool) (y:Int):xj r (vw l now r y):=by
  unfold vw
  split
  · exact fun _ h=>h
  · exact Ew
theorem Ai (l:List cd) (now:Int):∀ (e:List Int) (r:List Bool),xj r (e.foldl (vw l now) r)
  | [],r=>fun _ h=>h
  | y::e,r=>fun k hk=>Ai l now e _ k (Km l now r y k hk)
theorem BT (l:List cd) (now:Int) (k:Nat) (r:List Bool) (o:cd):xj r (visit l now k r o):=by
  unfold visit
  split
  · exact fun _ h=>h
  · exact Ai _ _ _ _
theorem BW (l:List cd) (now:Int):∀ (e:List Int) (r:List Bool),(∀ y,y ∈ e→y.toNat<r.length)→∀ y,y ∈ e→jy (nth l y) now=false→(e.foldl (vw l now) r)[y.toNat]?=some true
  | z::e,r,hr,y,hy,hx=>by
    rw [List.foldl_cons]
    rcases List.mem_cons.1 hy with rfl | hy
    · refine Ai l now e _ _ ?_
      unfold vw
      rw [if_neg (by simp [hx]),List.getElem?_set_self (hr y (by simp))]
    · exact BW l now e _ (fun x h=>by rw [Ae];exact hr x (by simp [h])) y hy hx
def uA (l:List cd) (now:Int) (r:List Bool):Prop:=∀ k:Nat,r[k]?=some true→Reaches l now (k:Int)
theorem Cg {l:List cd} {now i:Int} (hi:Reaches l now i):∀ (e:List Int) (r:List Bool),(∀ y,y ∈ e→y ∈ lE l i)→uA l now r→uA l now (e.foldl (vw l now) r)
  | [],r,_,h=>h
  | y::e,r,he,h=>by
    rw [List.foldl_cons]
    refine Cg hi e _ (fun x hx=>he x (by simp [hx])) ?_
    unfold vw
    split
    · exact h
    · rename_i hx
      intro k hk
      rcases setAt hk with q | q
      · have hy:=he y (by simp)
        have:=uf hy
        have e:(k:Int)=y:=by omega
        rw [e]
        exact .step hi hy (by simpa using hx)
      · exact h k q
theorem yI {r:List Bool} {k:Nat}:nth r (k:Int)=true ↔ r[k]?=some true:=by
  unfold nth
  rw [Int.toNat_natCast]
  cases h:r[k]? with
  | none=>simp;try rfl
  | some b=>simp
theorem xC {l:List cd} {now:Int} {k:Nat} {r:List Bool} {o:cd} (h:uA l now r):uA l now (visit l now k r o):=by
  unfold visit
  split
  · exact h
  · rename_i hc
    simp only [Bool.or_eq_true,Bool.not_eq_true',not_or,Bool.not_eq_false] at hc
    exact Cg (h k (yI.1 hc.1)) _ _ (fun _ hy=>hy) h
theorem vO {l:List cd} {now:Int}:∀ (m:List cd) (k:Nat) (r:List Bool),uA l now r→(foldI (visit l now) k r m).length=r.length∧xj r (foldI (visit l now) k r m)∧uA l now (foldI (visit l now) k r m)
  | [],k,r,h=>⟨rfl,fun _ h=>h,h⟩
  | o::m,k,r,h=>by
    obtain ⟨h1,h2,h3⟩:=vO m (k+1) (visit l now k r o) (xC h)
    exact ⟨by unfold foldI;rw [h1,vu],fun j hj=>h2 j (BT l now k r o j hj),h3⟩
def zu (l:List cd) (now:Int) (r q:List Bool):Prop:=∀ i:Nat,r[i]?=some true→∀ y,y ∈ lE l (i:Int)→jy (nth l y) now=false→q[y.toNat]?=some true
theorem zh {l:List cd} {now:Int} (h:Ar l) {k:Int} (hr:Reaches l now k) (hk:k ≠ 0):jy (nth l k) now=false:=by
  cases hr with
  | root=>exact absurd rfl hk
  | step _ _ h3=>exact h3
theorem A3 {l:List cd} {now:Int} (h:Ar l):∀ (m:List cd) (k:Nat) (r q:List Bool),(∀ j:Nat,m[j]?=l[k+j]?)→r.length=10→uA l now r→xj q r→∀ i:Nat,k≤i→q[i]?=some true→∀ y,y ∈ lE l (i:Int)→jy (nth l y) now=false→(foldI (visit l now) k r m)[y.toNat]?=some true
  | [],k,r,q,hm,hr,hs,hq,i,hi,hqi,y,hy,hx=>by
    have:=(hs i (hq i hqi)).xk h
    have h2:=hm (i - k)
    rw [show k+(i - k)=i by omega] at h2
    have:=h.len
    rw [List.getElem?_eq_getElem (show i<l.length by omega)] at h2
    simp at h2
  | o::m,k,r,q,hm,hr,hs,hq,i,hi,hqi,y,hy,hx=>by
    have ho:l[k]?=some o:=by have:=hm 0;simpa using this.symm
    unfold foldI
    rcases Nat.eq_or_lt_of_le hi with e | hlt
    · subst e
      refine (vO m (k+1) _ (xC hs)).2.1 _ ?_
      have hk:nth r (k:Int)=true:=yI.2 (hq k hqi)
      have hn:(jy o now&&decide ((k:Int) > 0))=false:=by
        by_cases h0:k=0
        · subst h0;simp
        · have:=zh h (hs k (hq k hqi)) (by omega)
          rw [vW ho] at this
          simp [this]
      unfold visit
      rw [if_neg (by rw [hk,hn];decide)]
      exact BW l now _ r (fun z hz=>by have:=uf hz;have:=h.len;omega) y hy hx
    · exact A3 h m (k+1) (visit l now k r o) q (fun j=>by have:=hm (j+1);rw [show k+1+j=k+(j+1) by omega, ← this];rfl) (by rw [vu,hr]) (xC hs) (fun j hj=>BT l now k r o j (hq j hj)) i hlt hqi y hy hx
theorem xn {l:List cd} {now:Int} (h:Ar l):∀ (n:Nat) (r:List Bool),r.length=10→uA l now r→(qz l now n r).length=10∧xj r (qz l now n r)∧uA l now (qz l now n r)∧(sN r<n→zu l now (qz l now n r) (qz l now n r))
  | 0,r,hr,hs=>⟨hr,fun _ h=>h,hs,fun h=>by omega⟩
  | n+1,r,hr,hs=>by
    obtain ⟨p1,p2,p3⟩:=vO (l:=l) (now:=now) l 0 r hs
    have p4:=fun i hi=>A3 h l 0 r r (fun j=>by rw [Nat.zero_add]) hr hs (fun _ h=>h) i (Nat.zero_le _) hi
    obtain ⟨q1,q2,q3,q4⟩:=xn h n (tP l now r) (by unfold tP;rw [p1,hr]) p3
    refine ⟨q1,fun k hk=>q2 k (p2 k hk),q3,fun hc=>?_⟩
    by_cases hcl:sN (tP l now r)<n
    · exact q4 hcl
    · have e:r=tP l now r:=BL p1.symm p2 (by omega)
      have fix:∀ m,qz l now m r=r:=by
        intro m
        induction m with
        | zero=>rfl
        | succ m ih=>unfold qz;rw [← e,ih]
      rw [fix (n+1)]
      intro i hi y hy hx
      have:=p4 i hi y hy hx
      rwa [show foldI (visit l now) 0 r l=r from e.symm] at this
def IJ (l:List cd) (now:Int) (r:List Bool):Prop:=r.length=10∧∀ k:Nat,r[k]?=some true ↔ Reaches l now (k:Int)
theorem G7 {l:List cd} {now:Int} (h:Ar l) {r:List Bool} (hl:r.length=10) (hs:uA l now r) (h0:r[0]?=some true) (hc:zu l now r r):IJ l now r:=by
  refine ⟨hl,fun k=>⟨hs k,fun hr=>?_⟩⟩
  have key:∀ j:Int,Reaches l now j→r[j.toNat]?=some true:=by
    intro j hj
    induction hj with
    | root=>exact h0
    | step h1 h2 h3 ih =>
      rename_i i k
      have:=(Reaches.xk h h1)
      refine hc i.toNat ih k ?_ h3
      rwa [show ((i.toNat:Nat):Int)=i by omega]
  simpa using key k hr
theorem Kc {l:List cd} {now:Int} {r q:List Bool} (h1:IJ l now r) (h2:IJ l now q):r=q:=by
  apply List.ext_getElem? fun k=>?_
  rcases Nat.lt_or_ge k 10 with hk | hk
  · have e:r[k]?=some true ↔ q[k]?=some true:=(h1.2 k).trans (h2.2 k).symm
    rw [List.getElem?_eq_getElem (by rw [h1.1];exact hk),List.getElem?_eq_getElem (by rw [h2.1];exact hk)] at e ⊢
    generalize r[k]'(by rw [h1.1];exact hk)=a at *
    generalize q[k]'(by rw [h2.1];exact hk)=b at *
    cases a <;> cases b <;> simp_all
  · rw [List.getElem?_eq_none (by rw [h1.1];exact hk),List.getElem?_eq_none (by rw [h2.1];exact hk)]
theorem FO (l:List cd) (now:Int):uA l now ((List.replicate 10 false).set 0 true):=fun k hk=>by
  rcases setAt hk with q | q
  · subst q;exact .root
  · rw [List.getElem?_replicate] at q;split at q <;> simp at q
theorem tz {l:List cd} (h:Ar l) (now:Int):IJ l now (reach l now):=by
  unfold reach
  rw [if_pos (kf.2 h)]
  obtain ⟨q1,q2,q3,q4⟩:=xn (now:=now) h 10 ((List.replicate 10 false).set 0 true) rfl (FO l now)
  exact G7 h q1 q3 (q2 0 rfl) (q4 (by decide))
theorem oO {l:List cd} (h:Ar l) (now:Int):(reach l now).length=10:=(tz h now).1
theorem xm {l:List cd} {now:Int}:∀ (m:List cd) (k:Nat) (r:List Bool),(foldI (visit l now) k r m).length=r.length
  | [],k,r=>rfl
  | o::m,k,r=>by unfold foldI;rw [xm m,vu]
theorem I9 {N:Nat} (hN:im≤N) {l:List cd} (h:Ar l) {now:Int} {e:List Int} (he:∀ y,y ∈ e→0≤y∧y≤9) (hl:e.length≤10) {r:List Bool} (hr:r.length=10) :
    iter (fun (s67:(List Bool)×Int)=>(bif (decide (s67.2<(e.length:Int))) then ((idx e s67.2).bind fun y70=>(idx l y70).bind fun y83=>bif (!(jy y83 now)) then ((idx s67.1 y70).bind fun y104=>some (.inl (s67.1.set (y70:Int).toNat true,IntKind.i64.wrap (s67.2+1)))) else (some (.inl (s67.1,IntKind.i64.wrap (s67.2+1))))) else (some (.inr (s67.1,s67.2))):Option (((List Bool)×Int)⊕((List Bool)×Int)))) N (r,0)=some (e.foldl (vw l now) r,(e.length:Int)):=by
  have hB:e.length<im:=Nat.lt_of_le_of_lt hl (by decide)
  rw [show (r,(0:Int))=(fun (k:Nat) (t:List Bool)=>(t,(k:Int))) 0 r from rfl,
    kK e (fun (k:Nat) (t:List Bool)=>(t,(k:Int))) (fun _ t y=>vw l now t y) (fun t=>(t,(e.length:Int))) (fun _ t=>t.length=10) ?_ ?_ (Nat.lt_of_lt_of_le hB hN) hr,lA]
  · intro k t y hy hk ht
    obtain ⟨y0,y9⟩:=he y (List.mem_of_getElem? hy)
    refine ⟨?_,by rw [Ae,ht]⟩
    simp only [jh hk,cond_true,iO,hy,Option.bind_some,(h.at y0 y9).1,ua,jm (Nat.lt_trans hk hB),jC (l:=t) y0 (by omega)]
    unfold vw
    cases jy (nth l y) now <;> rfl
  · intro t _
    simp only [jg,cond_false]
theorem pU {l:List cd} (h:Ar l) (i:Int):(∀ y,y ∈ lE l i→0≤y∧y≤9)∧(lE l i).length≤10:=by
  have:=h.len
  refine ⟨fun y hy=>by have:=uf hy;omega,by have:=Gt l i;omega⟩
theorem Ec {N:Nat} (hN:im≤N) {l:List cd} (hb:jo iz l<im) (hw:wA l) (now:Int):sv N l now=some (reach l now):=by
  unfold sv reach
  rw [qB hN hb hw,Option.bind_some]
  cases ha:kI l
  · rfl
  have h:=kf.1 ha
  have hB:=h.vM
  simp only [Bool.not_true,cond_false,if_true]
  rw [show mk Bool 10=some (List.replicate 10 false) from rfl]
  simp only [Option.bind_some]
  rw [show idx (List.replicate 10 false) 0=some false from rfl]
  simp only [Option.bind_some]
  have hin:∀ r:List Bool,r.length=10→iter (fun (s21:(List Bool)×Int)=>(bif (decide (s21.2<(l.length:Int))) then (((idx s21.1 s21.2).bind fun y26=>bif (!y26) then (some true) else ((idx l s21.2).bind fun y40=>(mi N y40 now).bind fun y58=>bif y58 then (some (decide (s21.2 > 0))) else (some false)):Option Bool).bind fun j24=>bif j24 then (some (.inl (s21.1,IntKind.i64.wrap (s21.2+1)))) else ((qh N l s21.2).bind fun y63=>(iter (fun (s67:(List Bool)×Int)=>(bif (decide (s67.2<(y63.length:Int))) then ((idx y63 s67.2).bind fun y70=>(idx l y70).bind fun y83=>(mi N y83 now).bind fun y101=>bif (!y101) then ((idx s67.1 y70).bind fun y104=>some (.inl (s67.1.set (y70:Int).toNat true,IntKind.i64.wrap (s67.2+1)))) else (some (.inl (s67.1,IntKind.i64.wrap (s67.2+1))))) else (some (.inr (s67.1,s67.2))):Option (((List Bool)×Int)⊕((List Bool)×Int)))) N (s21.1,0)).bind fun o111=>some (.inl (o111.1,IntKind.i64.wrap (s21.2+1))))) else (some (.inr (s21.1,s21.2))):Option (((List Bool)×Int)⊕((List Bool)×Int)))) N (r,0)=some (tP l now r,(l.length:Int)):=by
    intro r hr
    rw [show (r,(0:Int))=(fun (k:Nat) (t:List Bool)=>(t,(k:Int))) 0 r from rfl,
      kK l (fun (k:Nat) (t:List Bool)=>(t,(k:Int))) (fun k t y=>visit l now k t y) (fun t=>(t,(l.length:Int))) (fun _ t=>t.length=10) ?_ ?_ (Nat.lt_of_lt_of_le hB hN) hr]
    · rfl
    · intro k t y hy hk ht
      have hk10:k<10:=by rw [← h.len];exact hk
      refine ⟨?_,by rw [vu,ht]⟩
      simp only [jh hk,cond_true]
      rw [jC (l:=t) (i:=(k:Int)) (by omega) (by omega)]
      simp only [iO,hy,Option.bind_some,ua,jm (Nat.lt_trans hk hB)]
      rw [El hN hb hw h (i:=(k:Int)) (by omega) (by omega),Option.bind_some,I9 hN h (pU h _).1 (pU h _).2 ht]
      unfold visit
      cases nth t (k:Int) <;> cases jy y now <;> cases decide ((k:Int) > 0) <;> rfl
    · intro t _
      simp only [jg,cond_false]
  have hout:∀ (n:Nat) (j:Nat) (r:List Bool),r.length=10→foldI (fun _ t (_:Unit)=>tP l now t) j r (List.replicate n ())=qz l now n r:=by
    intro n
    induction n with
    | zero=>intro j r _;rfl
    | succ n ih=>intro j r hr;rw [List.replicate_succ];unfold foldI qz;exact ih _ _ (by
        have:=xm (l:=l) (now:=now) l 0 r
        unfold tP;rw [this,hr])
  rw [show (((List.replicate 10 false).set (0:Int).toNat true,(0:Int)):List Bool×Int)=(fun (k:Nat) (t:List Bool)=>(t,(k:Int))) 0 ((List.replicate 10 false).set 0 true) from rfl,
    kK (List.replicate 10 ()) (fun (k:Nat) (t:List Bool)=>(t,(k:Int))) (fun _ t _=>tP l now t) (fun t=>(t,(10:Int))) (fun _ t=>t.length=10) ?_ ?_ (JO (k:=0) hN (by decide)) rfl,hout 10 0 _ rfl]
  · rfl
  · intro k t y hy hk ht
    have hk:k<10:=by simpa using hk
    refine ⟨?_,by have:=xm (l:=l) (now:=now) l 0 t;unfold tP;rw [this,ht]⟩
    have h3:decide ((k:Int)<10)=true:=by simp;omega
    simp only [h3,cond_true]
    rw [hin t ht]
    simp only [Option.bind_some,jm (show k<im from Nat.lt_trans hk (by decide))]
  · intro t _
    rfl
def push (l:List cd) (now:Int) (s:List Bool×List Int) (y:Int):List Bool×List Int:=if !(nth s.1 y)&&!jy (nth l y) now then (s.1.set y.toNat true,s.2++[y]) else s
theorem Bh {r:List Bool} {y:Int} (h0:0≤y):nth r y=true ↔ r[y.toNat]?=some true:=by
  have:=yI (r:=r) (k:=y.toNat)
  rwa [show ((y.toNat:Nat):Int)=y by omega] at this
theorem wc {l:List cd} {now i:Int} (hi:Reaches l now i):∀ (e:List Int) (s:List Bool×List Int),(∀ y,y ∈ e→y ∈ lE l i∧0≤y∧y≤9)→s.1.length=10→uA l now s.1 →
    let z:=e.foldl (push l now) s
    z.1.length=10∧uA l now z.1∧xj s.1 z.1∧z.2.length+sN z.1=s.2.length+sN s.1∧(∀ y,y ∈ e→jy (nth l y) now=false→z.1[y.toNat]?=some true)∧(∀ y,y ∈ s.2→y ∈ z.2) ∧
      (∀ y,y ∈ z.2→y ∈ s.2∨(0≤y∧z.1[y.toNat]?=some true))∧(∀ k:Nat,z.1[k]?=some true→s.1[k]?=some true∨(k:Int) ∈ z.2)
  | [],s,_,h1,h2=>⟨h1,h2,fun _ h=>h,rfl,fun _ h=>absurd h (by simp),fun _ h=>h,fun _ h=>.inl h,fun _ h=>.inl h⟩
  | y::e,s,he,h1,h2=>by
    obtain ⟨e1,e2,e3⟩:=he y (by simp)
    have hlt:y.toNat<s.1.length:=by omega
    simp only [List.foldl_cons]
    by_cases hc:(!(nth s.1 y)&&!jy (nth l y) now)=true
    · have hp:push l now s y=(s.1.set y.toNat true,s.2++[y]):=by unfold push;rw [if_pos hc]
      simp only [Bool.and_eq_true,Bool.not_eq_true'] at hc
      have hf:s.1[y.toNat]?=some false:=by
        have:¬ s.1[y.toNat]?=some true:=fun q=>by rw [(Bh e2).2 q] at hc;simp at hc
        rw [List.getElem?_eq_getElem hlt] at this ⊢
        cases hb:s.1[y.toNat] <;> simp_all
      have hs:uA l now (s.1.set y.toNat true):=fun k hk=>by
        rcases setAt hk with q | q
        · have e:(k:Int)=y:=by omega
          rw [e];exact .step hi e1 hc.2
        · exact h2 k q
      rw [hp]
      obtain ⟨a1,a2,a3,a4,a5,a6,a7,a8⟩:=wc hi e (s.1.set y.toNat true,s.2++[y]) (fun x hx=>he x (by simp [hx])) (by simpa using h1) hs
      have hy:(e.foldl (push l now) (s.1.set y.toNat true,s.2++[y])).1[y.toNat]?=some true:=a3 _ (List.getElem?_set_self hlt)
      refine ⟨a1,a2,fun k hk=>a3 k (Ew k hk),?_,fun x hx hxx=>?_,fun x hx=>a6 x (by simp [hx]),fun x hx=>?_,fun k hk=>?_⟩
      · have:=DX hf
        simp only [List.length_append,List.length_cons,List.length_nil] at a4
        omega
      · rcases List.mem_cons.1 hx with rfl | hx
        · exact hy
        · exact a5 x hx hxx
      · rcases a7 x hx with q | q
        · rcases List.mem_append.1 q with q | q
          · exact .inl q
          · simp at q;subst q;exact .inr ⟨e2,hy⟩
        · exact .inr q
      · rcases a8 k hk with q | q
        · rcases setAt q with q | q
          · refine .inr (a6 (k:Int) ?_)
            have e:(k:Int)=y:=by omega
            simp [e]
          · exact .inl q
        · exact .inr q
    · have hp:push l now s y=s:=by unfold push;rw [if_neg hc]
      rw [hp]
      obtain ⟨a1,a2,a3,a4,a5,a6,a7,a8⟩:=wc hi e s (fun x hx=>he x (by simp [hx])) h1 h2
      refine ⟨a1,a2,a3,a4,fun x hx hxx=>?_,a6,a7,a8⟩
      rcases List.mem_cons.1 hx with rfl | hx
      · refine a3 _ ((Bh e2).1 ?_)
        cases hn:nth s.1 x
        · exact absurd (show (!(nth s.1 x)&&!jy (nth l x) now)=true by simp [hn,hxx]) hc
        · rfl
      · exact a5 x hx hxx
theorem AS (l:List cd) (now:Int):∀ (e:List Int) (s:List Bool×List Int),s.2.length≤(e.foldl (push l now) s).2.length
  | [],s=>Nat.le_refl _
  | y::e,s=>by
    rw [List.foldl_cons]
    refine Nat.le_trans ?_ (AS l now e _)
    unfold push;split <;> simp
theorem Hs {N:Nat} (hN:im≤N) {l:List cd} (h:Ar l) {now:Int} {e:List Int} (he:∀ y,y ∈ e→0≤y∧y≤9) (hl:e.length≤10) {r:List Bool} (hr:r.length=10) {t:List Int} (ht:t.length≤100) :
    iter (fun (s45:(List Bool)×(List Int)×Int)=>(bif (decide (s45.2.2<(e.length:Int))) then ((idx e s45.2.2).bind fun y48=>((idx s45.1 y48).bind fun y63=>bif (!y63) then ((idx l y48).bind fun y77=>(mF N y77 now).bind fun y95=>some (!y95)) else (some false):Option Bool).bind fun j61=>bif j61 then ((idx s45.1 y48).bind fun y99=>(app s45.2.1 [y48]).bind fun y106=>some (.inl (s45.1.set (y48:Int).toNat true,y106,IntKind.i64.wrap (s45.2.2+1)))) else (some (.inl (s45.1,s45.2.1,IntKind.i64.wrap (s45.2.2+1))))) else (some (.inr (s45.1,s45.2.1,s45.2.2))):Option (((List Bool)×(List Int)×Int)⊕((List Bool)×(List Int)×Int)))) N (r,t,0) =
      some ((e.foldl (push l now) (r,t)).1,(e.foldl (push l now) (r,t)).2,(e.length:Int)):=by
  have hB:e.length<im:=Nat.lt_of_le_of_lt hl (by decide)
  rw [show (r,t,(0:Int))=(fun (k:Nat) (s:List Bool×List Int)=>(s.1,s.2,(k:Int))) 0 (r,t) from rfl,
    kK e (fun (k:Nat) (s:List Bool×List Int)=>(s.1,s.2,(k:Int))) (fun _ s y=>push l now s y) (fun s=>(s.1,s.2,(e.length:Int))) (fun k s=>s.1.length=10∧s.2.length≤100+k) ?_ ?_ (Nat.lt_of_lt_of_le hB hN) ⟨hr,ht⟩,lA]
  · intro k s y hy hk ⟨i1,i2⟩
    obtain ⟨y0,y9⟩:=he y (List.mem_of_getElem? hy)
    refine ⟨?_,by
      unfold push
      split
      · simp only [List.length_set,List.length_append,List.length_cons,List.length_nil];omega
      · omega⟩
    have hkB:100+k+1<im:=by have:(16777216:Nat)=im:=rfl;omega
    simp only [jh hk,cond_true,iO,hy,Option.bind_some,(h.at y0 y9).1,vo,jm (Nat.lt_trans hk hB),jC (l:=s.1) y0 (by omega),lj i2 hkB,lK]
    unfold push
    cases (!(nth s.1 y)&&!jy (nth l y) now) <;> rfl
  · intro s _
    simp only [jg,cond_false]
theorem Es {N:Nat} (hN:im≤N) {l:List cd} (hb:jo iz l<im) (now:Int):sJ N l now=some (reach l now):=by
  unfold sJ
  rw [xR hN hb,Option.bind_some]
  cases ha:kI l
  · unfold reach;rw [ha];rfl
  have h:=kf.1 ha
  simp only [Bool.not_true,cond_false]
  rw [show mk Bool 10=some (List.replicate 10 false) from rfl]
  simp only [Option.bind_some]
  rw [show idx (List.replicate 10 false) 0=some false from rfl]
  simp only [Option.bind_some]
  obtain ⟨z,hz,hz1,hz2,hz3,hz4⟩:=B1 (body:=fun (s18:(List Bool)×(List Int))=>(bif (decide ((s18.2.length:Int) > 0)) then ((idx s18.2 0).bind fun y21=>(sub s18.2 1 (s18.2.length:Int)).bind fun y34=>(oe N l y21).bind fun y41=>(iter (fun (s45:(List Bool)×(List Int)×Int)=>(bif (decide (s45.2.2<(y41.length:Int))) then ((idx y41 s45.2.2).bind fun y48=>((idx s45.1 y48).bind fun y63=>bif (!y63) then ((idx l y48).bind fun y77=>(mF N y77 now).bind fun y95=>some (!y95)) else (some false):Option Bool).bind fun j61=>bif j61 then ((idx s45.1 y48).bind fun y99=>(app s45.2.1 [y48]).bind fun y106=>some (.inl (s45.1.set (y48:Int).toNat true,y106,IntKind.i64.wrap (s45.2.2+1)))) else (some (.inl (s45.1,s45.2.1,IntKind.i64.wrap (s45.2.2+1))))) else (some (.inr (s45.1,s45.2.1,s45.2.2))):Option (((List Bool)×(List Int)×Int)⊕((List Bool)×(List Int)×Int)))) N (s18.1,y34,0)).bind fun o111=>some (.inl (o111.1,o111.2.1))) else (some (.inr (s18.1,s18.2))):Option (((List Bool)×(List Int))⊕((List Bool)×(List Int)))))
    (fun s=>s.2.length+2 * sN s.1)
    (fun s=>s.1.length=10∧uA l now s.1∧s.1[0]?=some true∧s.2.length+sN s.1≤10∧(∀ y,y ∈ s.2→0≤y∧s.1[y.toNat]?=some true)∧∀ i:Nat,s.1[i]?=some true→(i:Int) ∈ s.2∨∀ y,y ∈ lE l (i:Int)→jy (nth l y) now=false→s.1[y.toNat]?=some true)
    (fun s=>s.1.length=10∧uA l now s.1∧s.1[0]?=some true∧zu l now s.1 s.1)
    (fun s hI=>by
      obtain ⟨r,t⟩:=s
      obtain ⟨i1,i2,i3,i4,i5,i6⟩:=hI
      simp only at i1 i2 i3 i4 i5 i6
      cases t with
      | nil=>exact .inr ⟨(r,[]),rfl,i1,i2,i3,fun i hi=>by have:=i6 i hi;simpa using this⟩
      | cons x t =>
        left
        obtain ⟨x0,xr⟩:=i5 x (by simp)
        have hx:Reaches l now x:=by have:=i2 x.toNat xr;rwa [show ((x.toNat:Nat):Int)=x by omega] at this
        obtain ⟨_,x9⟩:=hx.xk h
        have hsub:sub (x::t) 1 ((x::t).length:Int)=some t:=by
          unfold sub
          rw [if_pos ⟨by omega,by simp only [List.length_cons];omega,Int.le_refl _⟩]
          simp
        obtain ⟨e1,e2⟩:=pU h x
        have hpos:decide (((x::t).length:Int) > 0)=true:=by simp
        obtain ⟨a1,a2,a3,a4,a5,a6,a7,a8⟩:=wc hx (lE l x) (r,t) (fun y hy=>⟨hy,e1 y hy⟩) i1 i2
        simp only [List.length_cons] at i4
        refine ⟨(lE l x).foldl (push l now) (r,t),?_,⟨a1,a2,a3 0 i3,by simp only at a4;omega,fun y hy=>?_,fun i hi=>?_⟩,?_⟩
        · simp only [hpos,cond_true]
          rw [show idx (x::t) 0=some x from rfl]
          simp only [Option.bind_some,hsub]
          rw [Bc hN h x0 x9,Option.bind_some,Hs hN h e1 e2 i1 (by omega)]
          rfl
        · rcases a7 y hy with q | q
          · obtain ⟨q1,q2⟩:=i5 y (by simp [show y ∈ t from q])
            exact ⟨q1,a3 _ q2⟩
          · exact q
        · rcases a8 i hi with q | q
          · rcases i6 i q with q | q
            · rcases List.mem_cons.1 q with q | q
              · rw [q];exact .inr a5
              · exact .inl (a6 _ q)
            · exact .inr fun y hy hyx=>a3 _ (q y hy hyx)
          · exact .inl q
        · simp only [List.length_cons] at a4 ⊢
          have hle:sN ((lE l x).foldl (push l now) (r,t)).1≤sN r:=by
            have:t.length≤((lE l x).foldl (push l now) (r,t)).2.length:=AS l now (lE l x) (r,t)
            omega
          omega)
    N ((List.replicate 10 false).set 0 true,[0]) ⟨rfl,FO l now,rfl,by decide,fun y hy=>by simp at hy;subst hy;exact ⟨by decide,rfl⟩,fun i hi=>by
      rcases setAt hi with q | q
      · subst q;exact .inl (by simp)
      · rw [List.getElem?_replicate] at q;split at q <;> simp at q⟩ (by have:16777216≤N:=hN;simp only [show sN ((List.replicate 10 false).set 0 true)=9 from rfl,List.length_cons,List.length_nil];omega)
  rw [show ((List.replicate 10 false).set (0:Int).toNat true)=(List.replicate 10 false).set 0 true from rfl,hz,Option.bind_some]
  exact congrArg some (Kc (G7 h hz1 hz2 hz3 hz4) (tz h now))
theorem nZ {h:iA} (q:ku h=true):Ar h.ag:=by
  unfold ku at q
  simp only [Bool.and_eq_true] at q
  exact kf.1 q.1
def threads (p:dW) (now:Int):List Int:=if iS p then kE (fun k b=>b&&((nth p.heap.ag (k:Int)).kind==4)) (fun k _=>(k:Int)) 0 (reach p.heap.ag now) else []
theorem jS {p:dW} (h:iS p=true):Ar p.heap.ag:=by
  unfold iS ku at h
  simp only [Bool.and_eq_true] at h
  exact kf.1 h.2.2.2.1.1
theorem pA {p:dW} {now k:Int} (h:k ∈ threads p now):iS p=true∧0≤k∧k≤9:=by
  unfold threads at h
  split at h
  · rename_i hp
    obtain ⟨j,b,h1,_,h3⟩:=ug.1 h
    have:=jv h1
    rw [oO (jS hp)] at this
    have h3:k=((0+j:Nat):Int):=h3
    exact ⟨hp,by omega,by omega⟩
  · simp at h
theorem yz {N:Nat} (hN:im≤N) {l:List cd} (h:Ar l) {now:Int} {body:List Int×Int→Option ((List Int×Int)⊕(List Int×Int))}
    (hs:∀ (k:Nat) (t:List Int) (b:Bool),(reach l now)[k]?=some b→k<10→t.length≤k→body (t,(k:Int))=some (.inl (if b&&((nth l (k:Int)).kind==4) then t++[(k:Int)] else t,((k+1:Nat):Int))))
    (he:∀ t,body (t,10)=some (.inr (t,10))):iter body N ([],0)=some (kE (fun k b=>b&&((nth l (k:Int)).kind==4)) (fun k _=>(k:Int)) 0 (reach l now),10):=by
  have hl:=oO h now
  have e:((reach l now).length:Int)=10:=by omega
  rw [oQ (reach l now) (fun k b=>b&&((nth l (k:Int)).kind==4)) (fun k _=>(k:Int)) (by rw [hl];decide) hN,e]
  · intro k t b hb hk ht
    exact hs k t b hb (by omega) ht
  · intro t;rw [e];exact he t
theorem A2 {N:Nat} (hN:im≤N) {p:dW} (hb:iG p<im) (now:Int):pM N p now=some (threads p now):=by
  unfold pM threads
  rw [tF hN hb,Option.bind_some]
  cases hp:iS p
  · rfl
  have h:=jS hp
  have hl:=oO h now
  simp only [Bool.not_true,cond_false,Es hN (mq hb).2.2.2.1,Option.bind_some,if_true]
  rw [yz hN h]
  · rfl
  · intro k t b hy hk ht
    have hd:decide ((k:Int)<((reach p.heap.ag now).length:Int))=true:=by simp;omega
    simp only [hd,cond_true]
    rw [(h.at (i:=(k:Int)) (by omega) (by omega)).1]
    simp only [iO,hy,Option.bind_some,lK,jm (show k<im from Nat.lt_trans hk (by decide)),lj ht (show k+1<im from Nat.lt_trans (Nat.succ_lt_succ hk) (by decide))]
    cases (b&&((nth p.heap.ag (k:Int)).kind==4)) <;> rfl
  · intro t
    simp only [hl];rfl
theorem Gh {N:Nat} (hN:im≤N) {p:dW} (hb:iG p<im) (hw:wP p) (now:Int):rN N p now=some (threads p now):=by
  unfold rN threads
  rw [yH hN hb hw,Option.bind_some]
  cases hp:iS p
  · rfl
  have h:=jS hp
  have hl:=oO h now
  simp only [Bool.not_true,cond_false,Ec hN (mq hb).2.2.2.1 hw,Option.bind_some,if_true]
  rw [yz hN h]
  · rfl
  · intro k t b hy hk ht
    have hd:decide ((k:Int)<((reach p.heap.ag now).length:Int))=true:=by simp;omega
    simp only [hd,cond_true]
    rw [(h.at (i:=(k:Int)) (by omega) (by omega)).1]
    simp only [iO,hy,Option.bind_some,lK,jm (show k<im from Nat.lt_trans hk (by decide)),lj ht (show k+1<im from Nat.lt_trans (Nat.succ_lt_succ hk) (by decide))]
    cases (b&&((nth p.heap.ag (k:Int)).kind==4)) <;> rfl
  · intro t
    simp only [hl];rfl
theorem vJ (p:dW) (now:Int):(threads p now).length<im:=by
  unfold threads
  split
  · rename_i hp
    refine Nat.lt_of_le_of_lt (vB _ _ _ _) ?_
    rw [oO (jS hp)];decide
  · decide
def sA (p:dW) (now:Int) (th:Int):Bool:=(threads p now).contains th&&((nth p.heap.ag th).wait==0)
theorem GP {N:Nat} (hN:im≤N) {p:dW} (hb:iG p<im) (hw:wP p) (now th:Int):rr N p now th=some (sA p now th):=by
  unfold rr sA
  simp only [Gh hN hb hw,Option.bind_some,x7 hN (vJ p now)]
  cases hc:(threads p now).contains th
  · rfl
  · obtain ⟨h1,h2,h3⟩:=pA (List.contains_iff_mem.1 hc)
    simp only [cond_true,((jS h1).at h2 h3).1,Option.bind_some,Bool.true_and]
end Go.Kx
/- Plain laws: sizes of what is right; a thing put into an ag; what is born. No program in sight. -/
namespace Go.Kx
open Go
set_option linter.unusedVariables false
set_option linter.unusedSimpArgs false
set_option maxRecDepth 10000
theorem tJ {α:Type} {f:α→Nat} {c:Nat}:∀ {l:List α},(∀ y,y ∈ l→f y≤c)→nF f l≤c * l.length
  | [],_=>Nat.zero_le _
  | y::l,h=>by
    have h1:=h y (by simp)
    have h2:=tJ (l:=l) fun z hz=>h z (by simp [hz])
    simp only [nF,List.length_cons,Nat.mul_add];omega
theorem Cn {α:Type} {f:α→Nat} {y:α}:∀ {l:List α} {k:Nat},nF f (l.set k y)≤nF f l+f y
  | [],k=>by simp [nF]
  | z::l,0=>by simp only [List.set_cons_zero,nF];omega
  | z::l,k+1=>by
    have:=Cn (f:=f) (y:=y) (l:=l) (k:=k)
    simp only [List.set_cons_succ,nF];omega
theorem uQ {α:Type} {f:α→Nat} {y:α} {l:List α} {k:Nat}:jo f (l.set k y)≤jo f l+f y:=by
  have:=Cn (f:=f) (y:=y) (l:=l) (k:=k)
  unfold jo
  simp only [List.length_set];omega
theorem wC {o:cd} (h:jt o=true):iz o≤12:=by
  have hl:=(pL h).1
  unfold jt at h
  unfold iz
  cases hk:o.kind==0
  · simp only [hk,cond_false,Bool.and_eq_true] at h
    obtain ⟨_,_,_,_,_,hp,hl2,_⟩:=h
    unfold np at hl2
    simp only [Bool.and_eq_true,decide_eq_true_eq,beq_iff_eq] at hl2
    obtain ⟨_,_,_,_,hd,hq⟩:=hl2
    rw [i7] at hp
    have:o.data.length≤8:=by
      cases h2:o.kind==2
      · rw [h2] at hd;simp only [cond_false] at hd;omega
      · rw [h2] at hd;simp only [cond_true] at hd;omega
    have:o.queue.length≤2:=by
      cases h3:o.kind==3
      · rw [h3] at hq;simp only [cond_false] at hq;omega
      · rw [h3] at hq;simp only [cond_true] at hq;omega
    omega
  · simp only [hk,cond_true,Bool.and_eq_true,decide_eq_true_eq] at h
    rw [h.2.2];simp [blank]
theorem Ar.sz {l:List cd} (h:Ar l):jo iz l≤130:=by
  have h1:=tJ (f:=iz) (c:=12) fun y hy=>wC (h.ok y hy)
  have h2:=h.len
  unfold jo
  rw [h2] at h1 ⊢
  omega
theorem kL {l:List cd} {k:Nat} {o:cd} (h:wA l) (ho:mO o):wA (l.set k o):=fun y hy=>by
  rcases List.mem_or_eq_of_mem_set hy with q | q
  · exact h y q
  · rw [q];exact ho
def mj (o:cd) (g:Int):cd:=cd.mk g o.kind o.box o.res o.iU o.bh o.wait o.iW o.iR o.mark o.il o.data o.queue
def putAt (l:List cd) (o:cd) (k:Nat) (x:cd):List cd×Int:=if kI (l.set k (mj o (IntKind.i64.wrap (x.gen+1))))&&(o.kind != 0) then (l.set k (mj o (IntKind.i64.wrap (x.gen+1))),(k:Int)) else (l, -1)
def tU (l:List cd) (o:cd):Nat→List cd→List cd×Int
  | _,[]=>(l, -1)
  | k,x::m=>if x.kind != 0 || decide (x.gen ≥ 999) then tU l o (k+1) m else putAt l o k x
def k8 (l:List cd) (o:cd):List cd×Int:=if kI l then tU l o 1 (l.drop 1) else (l, -1)
theorem Ig {ρ:Type} {body:Int→Option (Int⊕ρ)} (l:List cd) (p:cd→Bool) (g:Nat→cd→ρ) (r:ρ) {N:Nat} (hN:l.length+1<N) (hl:1≤l.length)
    (hs:∀ (k:Nat) (x:cd),l[k]?=some x→1≤k→k<l.length→body (k:Int)=some (if p x then .inl ((k+1:Nat):Int) else .inr (g k x))) (he:body (l.length:Int)=some (.inr r)) :
    iter body N 1=some (l6 (fun k (_:Unit) x=>if p x then .inl () else .inr (g (k+1) x)) (fun _=>r) 0 () (l.drop 1)):=by
  have hd:(l.drop 1).length+1=l.length:=by simp;omega
  rw [show (1:Int)=(fun (k:Nat) (_:Unit)=>((k+1:Nat):Int)) 0 () from rfl,
    mP (l.drop 1) (fun (k:Nat) (_:Unit)=>((k+1:Nat):Int)) (fun k _ x=>if p x then .inl () else .inr (g (k+1) x)) (fun _=>r) (fun _ _=>True) ?_ ?_ (by omega) trivial]
  · intro k _ x hx hk _
    have hx:l[k+1]?=some x:=by rw [← hx,List.getElem?_drop,Nat.add_comm]
    refine ⟨?_,fun _ _=>trivial⟩
    show body ((k+1:Nat):Int)=_
    rw [hs (k+1) x hx (by omega) (by omega)]
    cases p x <;> rfl
  · intro _ _
    simp only [hd]
    exact he
theorem Ey {ρ:Type} (l:List cd) (o:cd) (r:ρ) (c:ρ→Option (List cd×Int)) (g:Nat→cd→ρ) (hr:c r=some (l, -1)) (hg:∀ k x,c (g k x)=some (putAt l o k x)):∀ (m:List cd) (k:Nat),
    c (l6 (fun k (_:Unit) x=>if x.kind != 0 || decide (x.gen ≥ 999) then .inl () else .inr (g (k+1) x)) (fun _=>r) k () m)=some (tU l o (k+1) m)
  | [],k=>hr
  | x::m,k=>by
    unfold l6 tU
    cases h:(x.kind != 0 || decide (x.gen ≥ 999))
    · simp only [Bool.false_eq_true,if_false];exact hg _ _
    · simp only [if_true];exact Ey l o r c g hr hg m (k+1)
theorem Hf (o:cd) (g:Int):iz (mj o g)=iz o:=rfl
theorem wM {o:cd} {g:Int} (h:mO o):mO (mj o g):=h
theorem Kb {l:List cd} (h:Ar l) {o:cd} (ho:iz o≤100000) (k:Nat):jo iz (l.set k o)<im:=by
  have h1:=h.sz
  have h2:=uQ (f:=iz) (y:=o) (l:=l) (k:=k)
  have:(16777216:Nat)=im:=rfl
  omega
theorem wQ {N:Nat} (hN:im≤N) {l:List cd} (hb:jo iz l<im) (hw:wA l) {o:cd} (ho:iz o≤100000) (hwo:mO o):nu N l o=some (k8 l o):=by
  have hB:(16777216:Nat)=im:=rfl
  have hoB:iz o<im:=by omega
  unfold nu k8
  simp only [za hN hb,qB hN hb hw,Option.bind_some]
  cases ha:kI l
  · rfl
  have h:=kf.1 ha
  have hl:=h.len
  simp only [Bool.not_true,cond_false,if_true]
  rw [Ig l (fun x=>x.kind != 0 || decide (x.gen ≥ 999)) (fun k x=>Sum.inr (putAt l o k x)) (Sum.inl (l.length:Int)) (by omega) (by omega)]
  · simp only [Option.bind_some]
    exact Ey l o (Sum.inl (l.length:Int)) (fun o84=>Sum.elim (fun o84=>some (l, -1)) (fun r87=>some r87) o84) (fun k x=>Sum.inr (putAt l o k x)) rfl (fun k x=>rfl) _ 0
  · intro k x hx hk1 hkl
    simp only [jh hkl,cond_true,iO,hx,Option.bind_some,lN,jm (show k<im by omega),Eg hoB,Int.toNat_natCast]
    rw [show cd.mk (IntKind.i64.wrap (x.gen+1)) o.kind o.box o.res o.iU o.bh o.wait o.iW o.iR o.mark o.il o.data o.queue=mj o (IntKind.i64.wrap (x.gen+1)) from rfl,qB hN (Kb h (by rw [Hf];exact ho) k) (kL hw (wM hwo))]
    simp only [Option.bind_some,lN]
    unfold putAt
    have hk:(o.kind==0)=!(o.kind != 0):=by simp [bne]
    rw [hk]
    cases (x.kind != 0 || decide (x.gen ≥ 999))
    · cases kI (l.set k (mj o (IntKind.i64.wrap (x.gen+1)))) <;> cases (o.kind != 0) <;> rfl
    · rfl
  · simp only [jg,cond_false]
def marked (o:cd) (m:Bool):cd:=cd.mk o.gen o.kind o.box o.res o.iU o.bh o.wait o.iW o.iR m o.il o.data o.queue
def o5 (h:iA) (i:Int):iA:=if ku h&&(iE i 0 9&&((nth h.ag i).kind != 0)) then iA.mk (h.ag.set i.toNat (marked (nth h.ag i) ((h.gc.phase==0) || decide (i ≥ h.gc.pos)))) h.gc else h
theorem BU {N:Nat} (hN:im≤N) {h:iA} (h1:jo iz h.ag<im) (h2:h.gc.ia.length<im) (hw:wA h.ag) (i:Int):rk N h i=some (o5 h i):=by
  unfold rk o5
  simp only [vz hN h1 h2,wJ hN h1 h2 hw,sj,Option.bind_some,bne]
  cases q:ku h
  · rfl
  cases hi:iE i 0 9
  · rfl
  have hr:=i7.1 hi
  simp only [Bool.not_true,cond_false,((nZ q).at hr.1 hr.2).1,Option.bind_some,Bool.true_and]
  cases (nth h.ag i).kind==0
  · cases h.gc.phase==0 <;> rfl
  · rfl
end Go.Kx
/- Plain laws: a new part. No program in sight. -/
namespace Go.Kx
open Go
set_option linter.unusedVariables false
set_option linter.unusedSimpArgs false
set_option maxRecDepth 10000
def qu:List cd:=(List.replicate 10 (blank 0)).set 0 (cd.mk 0 1 (-1) 0 1000000 0 0 0 0 false [-1, -1] [] [])
def v5:cd:=cd.mk 0 4 0 0 1000000 0 0 0 0 false [-1, -1] [] []
def zH:List cd:=qu.set 1 (mj v5 1)
def BO:List cd:=qu.set 1 (marked (mj v5 1) true)
theorem zo (N:Nat):qw N=some qu:=rfl
theorem BZ:k8 qu v5=(zH,1):=by decide
theorem EN:wA qu:=by
  intro o ho
  have:∀ o ∈ qu, -9223372036854775808≤o.wait:=by decide
  exact this o ho
theorem HS:wA zH:=by
  intro o ho
  have:∀ o ∈ zH, -9223372036854775808≤o.wait:=by decide
  exact this o ho
def tK:iA:=iA.mk BO (ks.mk 0 0 0 [0])
theorem FG:o5 (iA.mk zH (ks.mk 0 0 0 [0])) 1=tK:=by decide
def vQ (a:ig):List ir:=(List.replicate 5 vl).set 0 (ir.mk true (-1) a)
theorem A5 (N:Nat) (a:ig):pz N a=some (if iY a then (vQ a,true) else ([],false)):=by
  unfold pz
  rw [qX,Option.bind_some]
  cases iY a <;> rfl
def K2:dW:=dW.mk (j7.mk []) [] [] (iA.mk [] (ks.mk 0 0 0 [])) [] 0 0 (ig.mk 0 0 0) 0 0
def tE (b:km):dW:=dW.mk b.label b.own (vQ b.j9) tK [] 0 0 (ig.mk 0 0 0) 0 0
def Be (b:km):Bool:=iY b.j9&&(kc b.label&&mX b.own)
def pn (b:km):dW×Bool:=if Be b then (tE b,true) else (K2,false)
theorem GR:mO v5:=by show (-9223372036854775808:Int)≤0;decide
theorem wq (b:km):iG (tE b)=lp b+20:=by
  show my b.label+(b.own.length+((vQ b.j9).length+((jo iz tK.ag+((tK.gc.ia.length+0)+0))+(([]:List jw).length+0))))=my b.label+(b.own.length+0)+20
  have h1:jo iz tK.ag=14:=by decide
  have h2:tK.gc.ia.length=1:=by decide
  have h3:(vQ b.j9).length=5:=rfl
  have h4:([]:List jw).length=0:=rfl
  simp only [h1,h2,h3,h4]
  omega
theorem AR {N:Nat} (hN:im≤N) {b:km} (hb:lp b≤1048576):pG N b=some (pn b):=by
  have h1:b.label.levels.length<im∧b.own.length<im:=by have:(16777216:Nat)=im:=rfl;unfold lp my at hb;omega
  unfold pG pn Be
  simp only [A5,xJ hN h1.1,Ay hN h1.2,Option.bind_some,lN]
  cases iY b.j9
  · cases kc b.label <;> cases mX b.own <;> rfl
  cases kc b.label
  · rfl
  cases mX b.own
  · rfl
  simp only [if_true,Bool.not_true,Bool.or_self,cond_false,Bool.and_self,zo,Option.bind_some]
  rw [show cd.mk 0 4 0 0 1000000 0 0 0 0 false ([-1, -1]:List Int) [] []=v5 from rfl,wQ hN (by decide) EN (by decide) GR,BZ]
  simp only [Option.bind_some]
  rw [show sq N=some (ks.mk 0 0 0 [0]) from rfl]
  simp only [Option.bind_some]
  rw [BU hN (by decide) (by decide) HS,FG]
  simp only [Option.bind_some]
  rw [show dW.mk b.label b.own (vQ b.j9) tK [] 0 0 (ig.mk 0 0 0) 0 0=tE b from rfl,Bf hN (by rw [wq];have:(16777216:Nat)=im:=rfl;omega)]
  rfl
end Go.Kx
/- The plain law of 'FnExactWorldNew'. No program in sight. -/
namespace Go.Kx
open Go
set_option linter.unusedVariables false
set_option linter.unusedSimpArgs false
set_option maxRecDepth 10000
def nA (b:List km):List dW:=b.map fun x=>(pn x).1
def wy (b:List km):iN:=if vU b then ⟨0,nA b⟩ else ⟨0,[]⟩
theorem Jq {N:Nat} (hN:im≤N) {b:List km} (hl:b.length<im) {F:km→Option (dW×Bool)} (hF:∀ y,y ∈ b→F y=some (pn y)) :
    iter (fun (s10:Int×(List dW))=>(bif (decide (s10.1<(b.length:Int))) then ((idx b s10.1).bind fun y13=>(F y13).bind fun y28=>(app s10.2 [y28.1]).bind fun y45=>some (.inl (IntKind.i64.wrap (s10.1+1),y45))) else (some (.inr (s10.1,s10.2))):Option ((Int×(List dW))⊕(Int×(List dW))))) N (0,[])=some ((b.length:Int),nA b):=by
  have e:∀ (l:List km) (k:Nat) (acc:List dW),foldI (fun _ (acc:List dW) y=>acc++[(pn y).1]) k acc l=acc++nA l:=by
    intro l
    induction l with
    | nil=>intro k acc;simp [foldI,nA]
    | cons y l ih=>intro k acc;unfold foldI;rw [ih];simp [nA]
  rw [show ((0:Int),([]:List dW))=(fun (k:Nat) (t:List dW)=>((k:Int),t)) 0 [] from rfl,
    kK b (fun (k:Nat) (t:List dW)=>((k:Int),t)) (fun _ acc y=>acc++[(pn y).1]) (fun t=>((b.length:Int),t)) (fun k t=>t.length≤k) ?_ ?_ (Nat.lt_of_lt_of_le hl hN) (by simp),e]
  · simp
  · intro k t y hy hk ht
    refine ⟨?_,by simp;omega⟩
    simp only [jh hk,cond_true,iO,hy,Option.bind_some,hF y (List.mem_of_getElem? hy),jm (Nat.lt_trans hk hl),lj ht (Nat.lt_of_le_of_lt hk hl)]
  · intro t _
    simp only [jg,cond_false]
theorem EP {N:Nat} (hN:im≤N) {b:List km} (hb:jo lp b≤1048576):qt N b=some (wy b):=by
  have hb':jo lp b<im:=small hb
  unfold qt wy
  rw [HB hN hb',Option.bind_some]
  cases vU b
  · rfl
  · simp only [Bool.not_true,cond_false,if_true]
    rw [Jq hN (lD hb') fun y hy=>AR hN (Nat.le_of_lt_succ (lO (Nat.lt_succ_of_le hb) hy))];rfl
end Go.Kx
