/- Plain laws: edges, what is reached, threads, who may call. No program in sight. -/
import Derived.Test.YtikeaiogpfjdnaaGreatLBoot
namespace Go.Kx
open Go
set_option linter.unusedVariables false
set_option linter.unusedSimpArgs false
set_option maxRecDepth 10000
theorem iter_inv {σ ρ:Type} {body:σ→Option (σ⊕ρ)} (μ:σ→Nat) (I:σ→Prop) (Q:ρ→Prop) (h:∀ s,I s→(∃ s',body s=some (.inl s')∧I s'∧μ s'<μ s)∨∃ r,body s=some (.inr r)∧Q r):∀ (N:Nat) (s:σ),I s→μ s<N→∃ r,iter body N s=some r∧Q r
  | 0,s,_,hN=>by omega
  | N+1,s,hI,hN=>by
    unfold iter
    rcases h s hI with ⟨s',h1,h2,h3⟩ | ⟨r,h1,h2⟩
    · rw [h1];exact iter_inv μ I Q h N s' h2 (by omega)
    · rw [h1];exact ⟨r,rfl,h2⟩
theorem collI_mem {α β:Type} {p:Nat→α→Bool} {h:Nat→α→β} {z:β}:∀ {l:List α} {k:Nat},z ∈ collI p h k l ↔ ∃ (i:Nat) (y:α),l[i]?=some y∧p (k+i) y=true∧z=h (k+i) y
  | [],k=>by simp [collI]
  | y::l,k=>by
    have ih:=collI_mem (p:=p) (h:=h) (z:=z) (l:=l) (k:=k+1)
    have key:(∃ (i:Nat) (x:α),(y::l)[i]?=some x∧p (k+i) x=true∧z=h (k+i) x) ↔ (p k y=true∧z=h k y)∨z ∈ collI p h (k+1) l:=by
      rw [ih]
      constructor
      · rintro ⟨i,x,h1,h2,h3⟩
        cases i with
        | zero=>simp at h1;subst h1;exact .inl ⟨h2,h3⟩
        | succ i=>exact .inr ⟨i,x,by simpa using h1,by rwa [show k+1+i=k+(i+1) by omega],by rwa [show k+1+i=k+(i+1) by omega]⟩
      · rintro (⟨h2,h3⟩ | ⟨i,x,h1,h2,h3⟩)
        · exact ⟨0,y,rfl,h2,h3⟩
        · exact ⟨i+1,x,by simpa using h1,by rwa [show k+(i+1)=k+1+i by omega],by rwa [show k+(i+1)=k+1+i by omega]⟩
    rw [key,show collI p h k (y::l)=if p k y then h k y::collI p h (k+1) l else collI p h (k+1) l from rfl]
    cases hp:p k y <;> simp
structure Ar (l:List DObj):Prop where
  len:l.length=10
  kind0:(nth l 0).kind=1
  box0:(nth l 0).box=-1
  til0:(nth l 0).til=1000000
  ok:∀ o,o ∈ l→objOk o=true
  links:∀ o,o ∈ l→∀ y,y ∈ o.links→0≤y→(nth l y).kind ≠ 0
  box:∀ (k:Nat) (o:DObj),l[k]?=some o→0<k→o.kind ≠ 0→0≤o.box→(nth l o.box).kind ≠ 0
theorem arenaP_iff {l:List DObj} {k:Nat} {o:DObj}:arenaP l k o=true ↔ objOk o=true∧(0<k→o.kind ≠ 0→0≤o.box→(nth l o.box).kind ≠ 0)∧∀ y,y ∈ o.links→0≤y→(nth l y).kind ≠ 0:=by
  unfold arenaP linksP freeAt
  simp only [Bool.and_eq_true,List.all_eq_true,Bool.not_eq_true',Bool.and_eq_false_iff,decide_eq_false_iff_not,bne_eq_false_iff_eq,beq_eq_false_iff_ne,ne_eq]
  constructor
  · rintro ⟨⟨h1,h2⟩,h3⟩
    refine ⟨h1,fun a b c=>?_,fun y hy h0=>?_⟩
    · rcases h2 with q | q | q | q
      · omega
      · exact absurd q b
      · omega
      · exact q
    · rcases h3 y hy with q | q
      · omega
      · exact q
  · rintro ⟨h1,h2,h3⟩
    refine ⟨⟨h1,?_⟩,fun y hy=>?_⟩
    · by_cases a:0<k
      · by_cases b:o.kind=0
        · exact .inr (.inl b)
        · by_cases c:0≤o.box
          · exact .inr (.inr (.inr (h2 a b c)))
          · exact .inr (.inr (.inl (by omega)))
      · exact .inl (by omega)
    · by_cases c:0≤y
      · exact .inr (h3 y hy c)
      · exact .inl (by omega)
theorem arenaOk_iff {l:List DObj}:arenaOk l=true ↔ Ar l:=by
  unfold arenaOk headBad
  simp only [Bool.and_eq_true,Bool.not_eq_true',bne_eq_false_iff_eq,Bool.or_eq_false_iff,allI_iff,Nat.zero_add,arenaP_iff]
  constructor
  · rintro ⟨h1,⟨h2,h3,h4⟩,h5⟩
    have hm:∀ o,o ∈ l→∃ k:Nat,l[k]?=some o:=fun o ho=>List.getElem?_of_mem ho
    refine ⟨by omega,h2,h3,h4,fun o ho=>?_,fun o ho=>?_,fun k o hk=>?_⟩
    · obtain ⟨k,hk⟩:=hm o ho;exact (h5 k o hk).1
    · obtain ⟨k,hk⟩:=hm o ho;exact (h5 k o hk).2.2
    · exact (h5 k o hk).2.1
  · intro h
    refine ⟨by have:=h.len;omega,⟨h.kind0,h.box0,h.til0⟩,fun i y hy=>⟨h.ok y (List.mem_of_getElem? hy),h.box i y hy,h.links y (List.mem_of_getElem? hy)⟩⟩
theorem Ar.at {l:List DObj} (h:Ar l) {i:Int} (h0:0≤i) (h9:i≤9):idx l i=some (nth l i)∧nth l i ∈ l:=⟨idx_ok h0 (by have:=h.len;omega),nth_mem h0 (by have:=h.len;omega)⟩
theorem Ar.lenB {l:List DObj} (h:Ar l):l.length<BIG:=by rw [h.len];decide
def expired (o:DObj) (now:Int):Bool:=bif o.kind==0 then true else decide (o.til<now)
theorem i_Expired (N:Nat) (o:DObj) (now:Int):F_i_Expired N o now=some (expired o now):=cond_some _ _ _
theorem s_Expired (N:Nat) (o:DObj) (now:Int):F_s_Expired N o now=some (expired o now):=cond_some _ _ _
def edge (l:List DObj) (i:Int) (k:Nat) (y:DObj):Bool:=(decide ((k:Int) > 0)&&(y.kind != 0&&((y.box==i)&&((nth l i).kind==1)))) || (nth l i).links.contains (k:Int)
def edges (l:List DObj) (i:Int):List Int:=collI (edge l i) (fun k _=>(k:Int)) 0 l
theorem linksB {o:DObj} (h:objOk o=true):o.links.length<BIG:=Nat.lt_of_le_of_lt (objOk_links h).1 (by decide)
theorem edges_rng {l:List DObj} {i k:Int} (h:k ∈ edges l i):0≤k∧k<(l.length:Int):=by
  obtain ⟨j,y,h1,_,h3⟩:=collI_mem.1 h
  have:=lt_of_some h1
  have h3:k=((0+j:Nat):Int):=h3
  omega
theorem edges_len (l:List DObj) (i:Int):(edges l i).length≤l.length:=collI_len _ _ _ _
theorem i_edgesOf {N:Nat} (hN:BIG≤N) {l:List DObj} (h:Ar l) {i:Int} (h0:0≤i) (h9:i≤9):F_i_edgesOf N l i=some (edges l i):=by
  obtain ⟨q1,q2⟩:=h.at h0 h9
  have hB:=h.lenB
  unfold F_i_edgesOf edges
  rw [iter_coll l (edge l i) (fun k _=>(k:Int)) hB hN]
  · rfl
  · intro k t y hy hk ht
    simp only [lt_dec hk,cond_true,idx_nat,hy,Option.bind_some,q1,z_Contains hN (linksB (h.ok _ q2)),bAnd,bOr,wrap1 (Nat.lt_trans hk hB),app1 ht (Nat.lt_of_le_of_lt hk hB)]
    show (bif edge l i k y then _ else _)=_
    cases edge l i k y <;> rfl
  · intro t
    simp only [ge_dec,cond_false]
theorem edges_free {l:List DObj} (h:Ar l) {i:Int} (h0:0≤i) (h9:i≤9) (hk:(nth l i).kind=0):edges l i=[]:=by
  obtain ⟨_,q2⟩:=h.at h0 h9
  have hl:(nth l i).links=[]:=by
    have:=h.ok _ q2
    unfold objOk at this
    simp only [hk,beq_self_eq_true,cond_true,Bool.and_eq_true,decide_eq_true_eq] at this
    rw [this.2.2];rfl
  rw [List.eq_nil_iff_forall_not_mem]
  intro k hm
  obtain ⟨j,y,_,h2,_⟩:=collI_mem.1 hm
  simp [edge,hk,hl] at h2
theorem s_Edges {N:Nat} (hN:BIG≤N) {l:List DObj} (hb:szL sz_DObj l<BIG) (hw:wA l) (h:Ar l) {i:Int} (h0:0≤i) (h9:i≤9):F_s_Edges N l i=some (edges l i):=by
  obtain ⟨q1,q2⟩:=h.at h0 h9
  have hB:=h.lenB
  have hi:inR i 0 9=true:=by rw [inR_iff];omega
  unfold F_s_Edges
  simp only [s_ArenaOk hN hb hw,arenaOk_iff.2 h,s_l8Slot,hi,q1,Option.bind_some,Bool.not_true,cond_false]
  cases hk:(nth l i).kind==0
  · simp only [cond_false]
    unfold edges
    rw [iter_coll l (edge l i) (fun k _=>(k:Int)) hB hN]
    · rfl
    · intro k t y hy hk ht
      simp only [lt_dec hk,cond_true,idx_nat,hy,Option.bind_some,s_l4Has hN (linksB (h.ok _ q2)),bAnd,bOr,wrap1 (Nat.lt_trans hk hB),app1 ht (Nat.lt_of_le_of_lt hk hB)]
      unfold edge
      cases decide ((k:Int) > 0)
      · cases (nth l i).links.contains (k:Int) <;> rfl
      cases y.kind != 0
      · cases (nth l i).links.contains (k:Int) <;> rfl
      cases y.box==i
      · cases (nth l i).links.contains (k:Int) <;> rfl
      · cases ((nth l i).kind==1) <;> cases (nth l i).links.contains (k:Int) <;> rfl
    · intro t
      simp only [ge_dec,cond_false]
  · rw [edges_free h h0 h9 (by simpa using hk)];rfl
inductive Reaches (l:List DObj) (now:Int):Int→Prop
  | root:Reaches l now 0
  | step {i k:Int}:Reaches l now i→k ∈ edges l i→expired (nth l k) now=false→Reaches l now k
theorem Reaches.rng {l:List DObj} {now:Int} (h:Ar l) {k:Int} (hr:Reaches l now k):0≤k∧k≤9:=by
  cases hr with
  | root=>omega
  | step _ h2 _=>have:=edges_rng h2;have:=h.len;omega
def cnt:List Bool→Nat
  | []=>0
  | b::r=>(if b then 0 else 1)+cnt r
theorem cnt_set:∀ {r:List Bool} {k:Nat},r[k]?=some false→cnt (r.set k true)+1=cnt r
  | b::r,0,h=>by simp at h;subst h;simp [cnt];omega
  | b::r,k+1,h=>by
    have:=cnt_set (r:=r) (k:=k) (by simpa using h)
    simp only [List.set_cons_succ,cnt];omega
def leB (r q:List Bool):Prop:=∀ k:Nat,r[k]?=some true→q[k]?=some true
theorem leB_eq:∀ {r q:List Bool},r.length=q.length→leB r q→cnt r≤cnt q→r=q
  | [],[],_,_,_=>rfl
  | b::r,c::q,hl,h,hc=>by
    have hl':r.length=q.length:=by simpa using hl
    have h':leB r q:=fun k hk=>by simpa using h (k+1) (by simpa using hk)
    have key:∀ {r q:List Bool},r.length=q.length→leB r q→cnt q≤cnt r:=by
      intro r
      induction r with
      | nil=>intro q hl _;cases q with
        | nil=>exact Nat.le_refl _
        | cons=>simp at hl
      | cons b r ih =>
        intro q hl h
        cases q with
        | nil=>simp at hl
        | cons c q =>
          have:=ih (q:=q) (by simpa using hl) (fun k hk=>by simpa using h (k+1) (by simpa using hk))
          have h0:=h 0
          simp at h0
          simp only [cnt]
          cases b <;> cases c <;> simp_all <;> omega
    have h0:=h 0
    simp at h0
    have:=key hl' h'
    simp only [cnt] at hc
    cases b <;> cases c
    · exact congrArg _ (leB_eq hl' h' (by simpa using hc))
    · exfalso;simp at hc;omega
    · simp at h0
    · exact congrArg _ (leB_eq hl' h' (by simpa using hc))
theorem leB_set {r:List Bool} {k:Nat}:leB r (r.set k true):=fun j hj=>by
  rw [List.getElem?_set]
  split
  · rename_i e;subst e;rw [if_pos (lt_of_some hj)]
  · exact hj
theorem setAt {r:List Bool} {k j:Nat} (h:(r.set k true)[j]?=some true):j=k∨r[j]?=some true:=by
  rw [List.getElem?_set] at h
  split at h
  · exact .inl (by omega)
  · exact .inr h
def hit (l:List DObj) (now:Int) (r:List Bool) (y:Int):List Bool:=if expired (nth l y) now then r else r.set y.toNat true
def visit (l:List DObj) (now:Int) (k:Nat) (r:List Bool) (o:DObj):List Bool:=if !(nth r (k:Int)) || (expired o now&&decide ((k:Int) > 0)) then r else (edges l (k:Int)).foldl (hit l now) r
def sweep (l:List DObj) (now:Int) (r:List Bool):List Bool:=foldI (visit l now) 0 r l
def sweeps (l:List DObj) (now:Int):Nat→List Bool→List Bool
  | 0,r=>r
  | n+1,r=>sweeps l now n (sweep l now r)
def reach (l:List DObj) (now:Int):List Bool:=if arenaOk l then sweeps l now 10 ((List.replicate 10 false).set 0 true) else []
theorem hit_len (l:List DObj) (now:Int) (r:List Bool) (y:Int):(hit l now r y).length=r.length:=by unfold hit;split <;> simp
theorem hits_len (l:List DObj) (now:Int):∀ (e:List Int) (r:List Bool),(e.foldl (hit l now) r).length=r.length
  | [],r=>rfl
  | y::e,r=>by rw [List.foldl_cons,hits_len l now e,hit_len]
theorem visit_len (l:List DObj) (now:Int) (k:Nat) (r:List Bool) (o:DObj):(visit l now k r o).length=r.length:=by
  unfold visit
  split
  · rfl
  · exact hits_len _ _ _ _
theorem hit_le (l:List DObj) (now:Int) (r:List Bool) (y:Int):leB r (hit l now r y):=by
  unfold hit
  split
  · exact fun _ h=>h
  · exact leB_set
theorem hits_le (l:List DObj) (now:Int):∀ (e:List Int) (r:List Bool),leB r (e.foldl (hit l now) r)
  | [],r=>fun _ h=>h
  | y::e,r=>fun k hk=>hits_le l now e _ k (hit_le l now r y k hk)
theorem visit_le (l:List DObj) (now:Int) (k:Nat) (r:List Bool) (o:DObj):leB r (visit l now k r o):=by
  unfold visit
  split
  · exact fun _ h=>h
  · exact hits_le _ _ _ _
theorem hits_all (l:List DObj) (now:Int):∀ (e:List Int) (r:List Bool),(∀ y,y ∈ e→y.toNat<r.length)→∀ y,y ∈ e→expired (nth l y) now=false→(e.foldl (hit l now) r)[y.toNat]?=some true
  | z::e,r,hr,y,hy,hx=>by
    rw [List.foldl_cons]
    rcases List.mem_cons.1 hy with rfl | hy
    · refine hits_le l now e _ _ ?_
      unfold hit
      rw [if_neg (by simp [hx]),List.getElem?_set_self (hr y (by simp))]
    · exact hits_all l now e _ (fun x h=>by rw [hit_len];exact hr x (by simp [h])) y hy hx
def Snd (l:List DObj) (now:Int) (r:List Bool):Prop:=∀ k:Nat,r[k]?=some true→Reaches l now (k:Int)
theorem hits_snd {l:List DObj} {now i:Int} (hi:Reaches l now i):∀ (e:List Int) (r:List Bool),(∀ y,y ∈ e→y ∈ edges l i)→Snd l now r→Snd l now (e.foldl (hit l now) r)
  | [],r,_,h=>h
  | y::e,r,he,h=>by
    rw [List.foldl_cons]
    refine hits_snd hi e _ (fun x hx=>he x (by simp [hx])) ?_
    unfold hit
    split
    · exact h
    · rename_i hx
      intro k hk
      rcases setAt hk with q | q
      · have hy:=he y (by simp)
        have:=edges_rng hy
        have e:(k:Int)=y:=by omega
        rw [e]
        exact .step hi hy (by simpa using hx)
      · exact h k q
theorem nth_true {r:List Bool} {k:Nat}:nth r (k:Int)=true ↔ r[k]?=some true:=by
  unfold nth
  rw [Int.toNat_natCast]
  cases h:r[k]? with
  | none=>simp;try rfl
  | some b=>simp
theorem visit_snd {l:List DObj} {now:Int} {k:Nat} {r:List Bool} {o:DObj} (h:Snd l now r):Snd l now (visit l now k r o):=by
  unfold visit
  split
  · exact h
  · rename_i hc
    simp only [Bool.or_eq_true,Bool.not_eq_true',not_or,Bool.not_eq_false] at hc
    exact hits_snd (h k (nth_true.1 hc.1)) _ _ (fun _ hy=>hy) h
theorem sweep_props {l:List DObj} {now:Int}:∀ (m:List DObj) (k:Nat) (r:List Bool),Snd l now r→(foldI (visit l now) k r m).length=r.length∧leB r (foldI (visit l now) k r m)∧Snd l now (foldI (visit l now) k r m)
  | [],k,r,h=>⟨rfl,fun _ h=>h,h⟩
  | o::m,k,r,h=>by
    obtain ⟨h1,h2,h3⟩:=sweep_props m (k+1) (visit l now k r o) (visit_snd h)
    exact ⟨by unfold foldI;rw [h1,visit_len],fun j hj=>h2 j (visit_le l now k r o j hj),h3⟩
def Closed (l:List DObj) (now:Int) (r q:List Bool):Prop:=∀ i:Nat,r[i]?=some true→∀ y,y ∈ edges l (i:Int)→expired (nth l y) now=false→q[y.toNat]?=some true
theorem reach_live {l:List DObj} {now:Int} (h:Ar l) {k:Int} (hr:Reaches l now k) (hk:k ≠ 0):expired (nth l k) now=false:=by
  cases hr with
  | root=>exact absurd rfl hk
  | step _ _ h3=>exact h3
theorem sweep_all {l:List DObj} {now:Int} (h:Ar l):∀ (m:List DObj) (k:Nat) (r q:List Bool),(∀ j:Nat,m[j]?=l[k+j]?)→r.length=10→Snd l now r→leB q r→∀ i:Nat,k≤i→q[i]?=some true→∀ y,y ∈ edges l (i:Int)→expired (nth l y) now=false→(foldI (visit l now) k r m)[y.toNat]?=some true
  | [],k,r,q,hm,hr,hs,hq,i,hi,hqi,y,hy,hx=>by
    have:=(hs i (hq i hqi)).rng h
    have h2:=hm (i - k)
    rw [show k+(i - k)=i by omega] at h2
    have:=h.len
    rw [List.getElem?_eq_getElem (show i<l.length by omega)] at h2
    simp at h2
  | o::m,k,r,q,hm,hr,hs,hq,i,hi,hqi,y,hy,hx=>by
    have ho:l[k]?=some o:=by have:=hm 0;simpa using this.symm
    unfold foldI
    rcases Nat.eq_or_lt_of_le hi with e | hlt
    · subst e
      refine (sweep_props m (k+1) _ (visit_snd hs)).2.1 _ ?_
      have hk:nth r (k:Int)=true:=nth_true.2 (hq k hqi)
      have hn:(expired o now&&decide ((k:Int) > 0))=false:=by
        by_cases h0:k=0
        · subst h0;simp
        · have:=reach_live h (hs k (hq k hqi)) (by omega)
          rw [nth_of ho] at this
          simp [this]
      unfold visit
      rw [if_neg (by rw [hk,hn];decide)]
      exact hits_all l now _ r (fun z hz=>by have:=edges_rng hz;have:=h.len;omega) y hy hx
    · exact sweep_all h m (k+1) (visit l now k r o) q (fun j=>by have:=hm (j+1);rw [show k+1+j=k+(j+1) by omega, ← this];rfl) (by rw [visit_len,hr]) (visit_snd hs) (fun j hj=>visit_le l now k r o j (hq j hj)) i hlt hqi y hy hx
theorem sweeps_props {l:List DObj} {now:Int} (h:Ar l):∀ (n:Nat) (r:List Bool),r.length=10→Snd l now r→(sweeps l now n r).length=10∧leB r (sweeps l now n r)∧Snd l now (sweeps l now n r)∧(cnt r<n→Closed l now (sweeps l now n r) (sweeps l now n r))
  | 0,r,hr,hs=>⟨hr,fun _ h=>h,hs,fun h=>by omega⟩
  | n+1,r,hr,hs=>by
    obtain ⟨p1,p2,p3⟩:=sweep_props (l:=l) (now:=now) l 0 r hs
    have p4:=fun i hi=>sweep_all h l 0 r r (fun j=>by rw [Nat.zero_add]) hr hs (fun _ h=>h) i (Nat.zero_le _) hi
    obtain ⟨q1,q2,q3,q4⟩:=sweeps_props h n (sweep l now r) (by unfold sweep;rw [p1,hr]) p3
    refine ⟨q1,fun k hk=>q2 k (p2 k hk),q3,fun hc=>?_⟩
    by_cases hcl:cnt (sweep l now r)<n
    · exact q4 hcl
    · have e:r=sweep l now r:=leB_eq p1.symm p2 (by omega)
      have fix:∀ m,sweeps l now m r=r:=by
        intro m
        induction m with
        | zero=>rfl
        | succ m ih=>unfold sweeps;rw [← e,ih]
      rw [fix (n+1)]
      intro i hi y hy hx
      have:=p4 i hi y hy hx
      rwa [show foldI (visit l now) 0 r l=r from e.symm] at this
def IsR (l:List DObj) (now:Int) (r:List Bool):Prop:=r.length=10∧∀ k:Nat,r[k]?=some true ↔ Reaches l now (k:Int)
theorem isR_of {l:List DObj} {now:Int} (h:Ar l) {r:List Bool} (hl:r.length=10) (hs:Snd l now r) (h0:r[0]?=some true) (hc:Closed l now r r):IsR l now r:=by
  refine ⟨hl,fun k=>⟨hs k,fun hr=>?_⟩⟩
  have key:∀ j:Int,Reaches l now j→r[j.toNat]?=some true:=by
    intro j hj
    induction hj with
    | root=>exact h0
    | step h1 h2 h3 ih =>
      rename_i i k
      have:=(Reaches.rng h h1)
      refine hc i.toNat ih k ?_ h3
      rwa [show ((i.toNat:Nat):Int)=i by omega]
  simpa using key k hr
theorem isR_eq {l:List DObj} {now:Int} {r q:List Bool} (h1:IsR l now r) (h2:IsR l now q):r=q:=by
  apply List.ext_getElem? fun k=>?_
  rcases Nat.lt_or_ge k 10 with hk | hk
  · have e:r[k]?=some true ↔ q[k]?=some true:=(h1.2 k).trans (h2.2 k).symm
    rw [List.getElem?_eq_getElem (by rw [h1.1];exact hk),List.getElem?_eq_getElem (by rw [h2.1];exact hk)] at e ⊢
    generalize r[k]'(by rw [h1.1];exact hk)=a at *
    generalize q[k]'(by rw [h2.1];exact hk)=b at *
    cases a <;> cases b <;> simp_all
  · rw [List.getElem?_eq_none (by rw [h1.1];exact hk),List.getElem?_eq_none (by rw [h2.1];exact hk)]
theorem r0_snd (l:List DObj) (now:Int):Snd l now ((List.replicate 10 false).set 0 true):=fun k hk=>by
  rcases setAt hk with q | q
  · subst q;exact .root
  · rw [List.getElem?_replicate] at q;split at q <;> simp at q
theorem reach_is {l:List DObj} (h:Ar l) (now:Int):IsR l now (reach l now):=by
  unfold reach
  rw [if_pos (arenaOk_iff.2 h)]
  obtain ⟨q1,q2,q3,q4⟩:=sweeps_props (now:=now) h 10 ((List.replicate 10 false).set 0 true) rfl (r0_snd l now)
  exact isR_of h q1 q3 (q2 0 rfl) (q4 (by decide))
theorem reach_len {l:List DObj} (h:Ar l) (now:Int):(reach l now).length=10:=(reach_is h now).1
theorem foldI_len {l:List DObj} {now:Int}:∀ (m:List DObj) (k:Nat) (r:List Bool),(foldI (visit l now) k r m).length=r.length
  | [],k,r=>rfl
  | o::m,k,r=>by unfold foldI;rw [foldI_len m,visit_len]
theorem hitLoop {N:Nat} (hN:BIG≤N) {l:List DObj} (h:Ar l) {now:Int} {e:List Int} (he:∀ y,y ∈ e→0≤y∧y≤9) (hl:e.length≤10) {r:List Bool} (hr:r.length=10) :
    iter (fun (s67:(List Bool)×Int)=>(bif (decide (s67.2<(e.length:Int))) then ((idx e s67.2).bind fun y70=>(idx l y70).bind fun y83=>bif (!(expired y83 now)) then ((idx s67.1 y70).bind fun y104=>some (.inl (s67.1.set (y70:Int).toNat true,IntKind.i64.wrap (s67.2+1)))) else (some (.inl (s67.1,IntKind.i64.wrap (s67.2+1))))) else (some (.inr (s67.1,s67.2))):Option (((List Bool)×Int)⊕((List Bool)×Int)))) N (r,0)=some (e.foldl (hit l now) r,(e.length:Int)):=by
  have hB:e.length<BIG:=Nat.lt_of_le_of_lt hl (by decide)
  rw [show (r,(0:Int))=(fun (k:Nat) (t:List Bool)=>(t,(k:Int))) 0 r from rfl,
    iter_fold e (fun (k:Nat) (t:List Bool)=>(t,(k:Int))) (fun _ t y=>hit l now t y) (fun t=>(t,(e.length:Int))) (fun _ t=>t.length=10) ?_ ?_ (Nat.lt_of_lt_of_le hB hN) hr,foldI_const]
  · intro k t y hy hk ht
    obtain ⟨y0,y9⟩:=he y (List.mem_of_getElem? hy)
    refine ⟨?_,by rw [hit_len,ht]⟩
    simp only [lt_dec hk,cond_true,idx_nat,hy,Option.bind_some,(h.at y0 y9).1,s_Expired,wrap1 (Nat.lt_trans hk hB),idx_ok (l:=t) y0 (by omega)]
    unfold hit
    cases expired (nth l y) now <;> rfl
  · intro t _
    simp only [ge_dec,cond_false]
theorem edges_ok {l:List DObj} (h:Ar l) (i:Int):(∀ y,y ∈ edges l i→0≤y∧y≤9)∧(edges l i).length≤10:=by
  have:=h.len
  refine ⟨fun y hy=>by have:=edges_rng hy;omega,by have:=edges_len l i;omega⟩
theorem s_Reach {N:Nat} (hN:BIG≤N) {l:List DObj} (hb:szL sz_DObj l<BIG) (hw:wA l) (now:Int):F_s_Reach N l now=some (reach l now):=by
  unfold F_s_Reach reach
  rw [s_ArenaOk hN hb hw,Option.bind_some]
  cases ha:arenaOk l
  · rfl
  have h:=arenaOk_iff.1 ha
  have hB:=h.lenB
  simp only [Bool.not_true,cond_false,if_true]
  rw [show mk Bool 10=some (List.replicate 10 false) from rfl]
  simp only [Option.bind_some]
  rw [show idx (List.replicate 10 false) 0=some false from rfl]
  simp only [Option.bind_some]
  have hin:∀ r:List Bool,r.length=10→iter (fun (s21:(List Bool)×Int)=>(bif (decide (s21.2<(l.length:Int))) then (((idx s21.1 s21.2).bind fun y26=>bif (!y26) then (some true) else ((idx l s21.2).bind fun y40=>(F_s_Expired N y40 now).bind fun y58=>bif y58 then (some (decide (s21.2 > 0))) else (some false)):Option Bool).bind fun j24=>bif j24 then (some (.inl (s21.1,IntKind.i64.wrap (s21.2+1)))) else ((F_s_Edges N l s21.2).bind fun y63=>(iter (fun (s67:(List Bool)×Int)=>(bif (decide (s67.2<(y63.length:Int))) then ((idx y63 s67.2).bind fun y70=>(idx l y70).bind fun y83=>(F_s_Expired N y83 now).bind fun y101=>bif (!y101) then ((idx s67.1 y70).bind fun y104=>some (.inl (s67.1.set (y70:Int).toNat true,IntKind.i64.wrap (s67.2+1)))) else (some (.inl (s67.1,IntKind.i64.wrap (s67.2+1))))) else (some (.inr (s67.1,s67.2))):Option (((List Bool)×Int)⊕((List Bool)×Int)))) N (s21.1,0)).bind fun o111=>some (.inl (o111.1,IntKind.i64.wrap (s21.2+1))))) else (some (.inr (s21.1,s21.2))):Option (((List Bool)×Int)⊕((List Bool)×Int)))) N (r,0)=some (sweep l now r,(l.length:Int)):=by
    intro r hr
    rw [show (r,(0:Int))=(fun (k:Nat) (t:List Bool)=>(t,(k:Int))) 0 r from rfl,
      iter_fold l (fun (k:Nat) (t:List Bool)=>(t,(k:Int))) (fun k t y=>visit l now k t y) (fun t=>(t,(l.length:Int))) (fun _ t=>t.length=10) ?_ ?_ (Nat.lt_of_lt_of_le hB hN) hr]
    · rfl
    · intro k t y hy hk ht
      have hk10:k<10:=by rw [← h.len];exact hk
      refine ⟨?_,by rw [visit_len,ht]⟩
      simp only [lt_dec hk,cond_true]
      rw [idx_ok (l:=t) (i:=(k:Int)) (by omega) (by omega)]
      simp only [idx_nat,hy,Option.bind_some,s_Expired,wrap1 (Nat.lt_trans hk hB)]
      rw [s_Edges hN hb hw h (i:=(k:Int)) (by omega) (by omega),Option.bind_some,hitLoop hN h (edges_ok h _).1 (edges_ok h _).2 ht]
      unfold visit
      cases nth t (k:Int) <;> cases expired y now <;> cases decide ((k:Int) > 0) <;> rfl
    · intro t _
      simp only [ge_dec,cond_false]
  have hout:∀ (n:Nat) (j:Nat) (r:List Bool),r.length=10→foldI (fun _ t (_:Unit)=>sweep l now t) j r (List.replicate n ())=sweeps l now n r:=by
    intro n
    induction n with
    | zero=>intro j r _;rfl
    | succ n ih=>intro j r hr;rw [List.replicate_succ];unfold foldI sweeps;exact ih _ _ (by
        have:=foldI_len (l:=l) (now:=now) l 0 r
        unfold sweep;rw [this,hr])
  rw [show (((List.replicate 10 false).set (0:Int).toNat true,(0:Int)):List Bool×Int)=(fun (k:Nat) (t:List Bool)=>(t,(k:Int))) 0 ((List.replicate 10 false).set 0 true) from rfl,
    iter_fold (List.replicate 10 ()) (fun (k:Nat) (t:List Bool)=>(t,(k:Int))) (fun _ t _=>sweep l now t) (fun t=>(t,(10:Int))) (fun _ t=>t.length=10) ?_ ?_ (ltN (k:=0) hN (by decide)) rfl,hout 10 0 _ rfl]
  · rfl
  · intro k t y hy hk ht
    have hk:k<10:=by simpa using hk
    refine ⟨?_,by have:=foldI_len (l:=l) (now:=now) l 0 t;unfold sweep;rw [this,ht]⟩
    have h3:decide ((k:Int)<10)=true:=by simp;omega
    simp only [h3,cond_true]
    rw [hin t ht]
    simp only [Option.bind_some,wrap1 (show k<BIG from Nat.lt_trans hk (by decide))]
  · intro t _
    rfl
def push (l:List DObj) (now:Int) (s:List Bool×List Int) (y:Int):List Bool×List Int:=if !(nth s.1 y)&&!expired (nth l y) now then (s.1.set y.toNat true,s.2++[y]) else s
theorem nth_true' {r:List Bool} {y:Int} (h0:0≤y):nth r y=true ↔ r[y.toNat]?=some true:=by
  have:=nth_true (r:=r) (k:=y.toNat)
  rwa [show ((y.toNat:Nat):Int)=y by omega] at this
theorem push_props {l:List DObj} {now i:Int} (hi:Reaches l now i):∀ (e:List Int) (s:List Bool×List Int),(∀ y,y ∈ e→y ∈ edges l i∧0≤y∧y≤9)→s.1.length=10→Snd l now s.1 →
    let z:=e.foldl (push l now) s
    z.1.length=10∧Snd l now z.1∧leB s.1 z.1∧z.2.length+cnt z.1=s.2.length+cnt s.1∧(∀ y,y ∈ e→expired (nth l y) now=false→z.1[y.toNat]?=some true)∧(∀ y,y ∈ s.2→y ∈ z.2) ∧
      (∀ y,y ∈ z.2→y ∈ s.2∨(0≤y∧z.1[y.toNat]?=some true))∧(∀ k:Nat,z.1[k]?=some true→s.1[k]?=some true∨(k:Int) ∈ z.2)
  | [],s,_,h1,h2=>⟨h1,h2,fun _ h=>h,rfl,fun _ h=>absurd h (by simp),fun _ h=>h,fun _ h=>.inl h,fun _ h=>.inl h⟩
  | y::e,s,he,h1,h2=>by
    obtain ⟨e1,e2,e3⟩:=he y (by simp)
    have hlt:y.toNat<s.1.length:=by omega
    simp only [List.foldl_cons]
    by_cases hc:(!(nth s.1 y)&&!expired (nth l y) now)=true
    · have hp:push l now s y=(s.1.set y.toNat true,s.2++[y]):=by unfold push;rw [if_pos hc]
      simp only [Bool.and_eq_true,Bool.not_eq_true'] at hc
      have hf:s.1[y.toNat]?=some false:=by
        have:¬ s.1[y.toNat]?=some true:=fun q=>by rw [(nth_true' e2).2 q] at hc;simp at hc
        rw [List.getElem?_eq_getElem hlt] at this ⊢
        cases hb:s.1[y.toNat] <;> simp_all
      have hs:Snd l now (s.1.set y.toNat true):=fun k hk=>by
        rcases setAt hk with q | q
        · have e:(k:Int)=y:=by omega
          rw [e];exact .step hi e1 hc.2
        · exact h2 k q
      rw [hp]
      obtain ⟨a1,a2,a3,a4,a5,a6,a7,a8⟩:=push_props hi e (s.1.set y.toNat true,s.2++[y]) (fun x hx=>he x (by simp [hx])) (by simpa using h1) hs
      have hy:(e.foldl (push l now) (s.1.set y.toNat true,s.2++[y])).1[y.toNat]?=some true:=a3 _ (List.getElem?_set_self hlt)
      refine ⟨a1,a2,fun k hk=>a3 k (leB_set k hk),?_,fun x hx hxx=>?_,fun x hx=>a6 x (by simp [hx]),fun x hx=>?_,fun k hk=>?_⟩
      · have:=cnt_set hf
        simp only [List.length_append,List.length_cons,List.length_nil] at a4
        omega
      · rcases List.mem_cons.1 hx with rfl | hx
        · exact hy
        · exact a5 x hx hxx
      · rcases a7 x hx with q | q
        · rcases List.mem_append.1 q with q | q
          · exact .inl q
          · simp at q;subst q;exact .inr ⟨e2,hy⟩
        · exact .inr q
      · rcases a8 k hk with q | q
        · rcases setAt q with q | q
          · refine .inr (a6 (k:Int) ?_)
            have e:(k:Int)=y:=by omega
            simp [e]
          · exact .inl q
        · exact .inr q
    · have hp:push l now s y=s:=by unfold push;rw [if_neg hc]
      rw [hp]
      obtain ⟨a1,a2,a3,a4,a5,a6,a7,a8⟩:=push_props hi e s (fun x hx=>he x (by simp [hx])) h1 h2
      refine ⟨a1,a2,a3,a4,fun x hx hxx=>?_,a6,a7,a8⟩
      rcases List.mem_cons.1 hx with rfl | hx
      · refine a3 _ ((nth_true' e2).1 ?_)
        cases hn:nth s.1 x
        · exact absurd (show (!(nth s.1 x)&&!expired (nth l x) now)=true by simp [hn,hxx]) hc
        · rfl
      · exact a5 x hx hxx
theorem push_grow (l:List DObj) (now:Int):∀ (e:List Int) (s:List Bool×List Int),s.2.length≤(e.foldl (push l now) s).2.length
  | [],s=>Nat.le_refl _
  | y::e,s=>by
    rw [List.foldl_cons]
    refine Nat.le_trans ?_ (push_grow l now e _)
    unfold push;split <;> simp
theorem pushLoop {N:Nat} (hN:BIG≤N) {l:List DObj} (h:Ar l) {now:Int} {e:List Int} (he:∀ y,y ∈ e→0≤y∧y≤9) (hl:e.length≤10) {r:List Bool} (hr:r.length=10) {t:List Int} (ht:t.length≤100) :
    iter (fun (s45:(List Bool)×(List Int)×Int)=>(bif (decide (s45.2.2<(e.length:Int))) then ((idx e s45.2.2).bind fun y48=>((idx s45.1 y48).bind fun y63=>bif (!y63) then ((idx l y48).bind fun y77=>(F_i_Expired N y77 now).bind fun y95=>some (!y95)) else (some false):Option Bool).bind fun j61=>bif j61 then ((idx s45.1 y48).bind fun y99=>(app s45.2.1 [y48]).bind fun y106=>some (.inl (s45.1.set (y48:Int).toNat true,y106,IntKind.i64.wrap (s45.2.2+1)))) else (some (.inl (s45.1,s45.2.1,IntKind.i64.wrap (s45.2.2+1))))) else (some (.inr (s45.1,s45.2.1,s45.2.2))):Option (((List Bool)×(List Int)×Int)⊕((List Bool)×(List Int)×Int)))) N (r,t,0) =
      some ((e.foldl (push l now) (r,t)).1,(e.foldl (push l now) (r,t)).2,(e.length:Int)):=by
  have hB:e.length<BIG:=Nat.lt_of_le_of_lt hl (by decide)
  rw [show (r,t,(0:Int))=(fun (k:Nat) (s:List Bool×List Int)=>(s.1,s.2,(k:Int))) 0 (r,t) from rfl,
    iter_fold e (fun (k:Nat) (s:List Bool×List Int)=>(s.1,s.2,(k:Int))) (fun _ s y=>push l now s y) (fun s=>(s.1,s.2,(e.length:Int))) (fun k s=>s.1.length=10∧s.2.length≤100+k) ?_ ?_ (Nat.lt_of_lt_of_le hB hN) ⟨hr,ht⟩,foldI_const]
  · intro k s y hy hk ⟨i1,i2⟩
    obtain ⟨y0,y9⟩:=he y (List.mem_of_getElem? hy)
    refine ⟨?_,by
      unfold push
      split
      · simp only [List.length_set,List.length_append,List.length_cons,List.length_nil];omega
      · omega⟩
    have hkB:100+k+1<BIG:=by have:(16777216:Nat)=BIG:=rfl;omega
    simp only [lt_dec hk,cond_true,idx_nat,hy,Option.bind_some,(h.at y0 y9).1,i_Expired,wrap1 (Nat.lt_trans hk hB),idx_ok (l:=s.1) y0 (by omega),app1 i2 hkB,bAnd]
    unfold push
    cases (!(nth s.1 y)&&!expired (nth l y) now) <;> rfl
  · intro s _
    simp only [ge_dec,cond_false]
theorem i_Reach {N:Nat} (hN:BIG≤N) {l:List DObj} (hb:szL sz_DObj l<BIG) (now:Int):F_i_Reach N l now=some (reach l now):=by
  unfold F_i_Reach
  rw [i_ArenaOk hN hb,Option.bind_some]
  cases ha:arenaOk l
  · unfold reach;rw [ha];rfl
  have h:=arenaOk_iff.1 ha
  simp only [Bool.not_true,cond_false]
  rw [show mk Bool 10=some (List.replicate 10 false) from rfl]
  simp only [Option.bind_some]
  rw [show idx (List.replicate 10 false) 0=some false from rfl]
  simp only [Option.bind_some]
  obtain ⟨z,hz,hz1,hz2,hz3,hz4⟩:=iter_inv (body:=fun (s18:(List Bool)×(List Int))=>(bif (decide ((s18.2.length:Int) > 0)) then ((idx s18.2 0).bind fun y21=>(sub s18.2 1 (s18.2.length:Int)).bind fun y34=>(F_i_edgesOf N l y21).bind fun y41=>(iter (fun (s45:(List Bool)×(List Int)×Int)=>(bif (decide (s45.2.2<(y41.length:Int))) then ((idx y41 s45.2.2).bind fun y48=>((idx s45.1 y48).bind fun y63=>bif (!y63) then ((idx l y48).bind fun y77=>(F_i_Expired N y77 now).bind fun y95=>some (!y95)) else (some false):Option Bool).bind fun j61=>bif j61 then ((idx s45.1 y48).bind fun y99=>(app s45.2.1 [y48]).bind fun y106=>some (.inl (s45.1.set (y48:Int).toNat true,y106,IntKind.i64.wrap (s45.2.2+1)))) else (some (.inl (s45.1,s45.2.1,IntKind.i64.wrap (s45.2.2+1))))) else (some (.inr (s45.1,s45.2.1,s45.2.2))):Option (((List Bool)×(List Int)×Int)⊕((List Bool)×(List Int)×Int)))) N (s18.1,y34,0)).bind fun o111=>some (.inl (o111.1,o111.2.1))) else (some (.inr (s18.1,s18.2))):Option (((List Bool)×(List Int))⊕((List Bool)×(List Int)))))
    (fun s=>s.2.length+2 * cnt s.1)
    (fun s=>s.1.length=10∧Snd l now s.1∧s.1[0]?=some true∧s.2.length+cnt s.1≤10∧(∀ y,y ∈ s.2→0≤y∧s.1[y.toNat]?=some true)∧∀ i:Nat,s.1[i]?=some true→(i:Int) ∈ s.2∨∀ y,y ∈ edges l (i:Int)→expired (nth l y) now=false→s.1[y.toNat]?=some true)
    (fun s=>s.1.length=10∧Snd l now s.1∧s.1[0]?=some true∧Closed l now s.1 s.1)
    (fun s hI=>by
      obtain ⟨r,t⟩:=s
      obtain ⟨i1,i2,i3,i4,i5,i6⟩:=hI
      simp only at i1 i2 i3 i4 i5 i6
      cases t with
      | nil=>exact .inr ⟨(r,[]),rfl,i1,i2,i3,fun i hi=>by have:=i6 i hi;simpa using this⟩
      | cons x t =>
        left
        obtain ⟨x0,xr⟩:=i5 x (by simp)
        have hx:Reaches l now x:=by have:=i2 x.toNat xr;rwa [show ((x.toNat:Nat):Int)=x by omega] at this
        obtain ⟨_,x9⟩:=hx.rng h
        have hsub:sub (x::t) 1 ((x::t).length:Int)=some t:=by
          unfold sub
          rw [if_pos ⟨by omega,by simp only [List.length_cons];omega,Int.le_refl _⟩]
          simp
        obtain ⟨e1,e2⟩:=edges_ok h x
        have hpos:decide (((x::t).length:Int) > 0)=true:=by simp
        obtain ⟨a1,a2,a3,a4,a5,a6,a7,a8⟩:=push_props hx (edges l x) (r,t) (fun y hy=>⟨hy,e1 y hy⟩) i1 i2
        simp only [List.length_cons] at i4
        refine ⟨(edges l x).foldl (push l now) (r,t),?_,⟨a1,a2,a3 0 i3,by simp only at a4;omega,fun y hy=>?_,fun i hi=>?_⟩,?_⟩
        · simp only [hpos,cond_true]
          rw [show idx (x::t) 0=some x from rfl]
          simp only [Option.bind_some,hsub]
          rw [i_edgesOf hN h x0 x9,Option.bind_some,pushLoop hN h e1 e2 i1 (by omega)]
          rfl
        · rcases a7 y hy with q | q
          · obtain ⟨q1,q2⟩:=i5 y (by simp [show y ∈ t from q])
            exact ⟨q1,a3 _ q2⟩
          · exact q
        · rcases a8 i hi with q | q
          · rcases i6 i q with q | q
            · rcases List.mem_cons.1 q with q | q
              · rw [q];exact .inr a5
              · exact .inl (a6 _ q)
            · exact .inr fun y hy hyx=>a3 _ (q y hy hyx)
          · exact .inl q
        · simp only [List.length_cons] at a4 ⊢
          have hle:cnt ((edges l x).foldl (push l now) (r,t)).1≤cnt r:=by
            have:t.length≤((edges l x).foldl (push l now) (r,t)).2.length:=push_grow l now (edges l x) (r,t)
            omega
          omega)
    N ((List.replicate 10 false).set 0 true,[0]) ⟨rfl,r0_snd l now,rfl,by decide,fun y hy=>by simp at hy;subst hy;exact ⟨by decide,rfl⟩,fun i hi=>by
      rcases setAt hi with q | q
      · subst q;exact .inl (by simp)
      · rw [List.getElem?_replicate] at q;split at q <;> simp at q⟩ (by have:16777216≤N:=hN;simp only [show cnt ((List.replicate 10 false).set 0 true)=9 from rfl,List.length_cons,List.length_nil];omega)
  rw [show ((List.replicate 10 false).set (0:Int).toNat true)=(List.replicate 10 false).set 0 true from rfl,hz,Option.bind_some]
  exact congrArg some (isR_eq (isR_of h hz1 hz2 hz3 hz4) (reach_is h now))
theorem heapOk_ar {h:DHeap} (q:heapOk h=true):Ar h.arena:=by
  unfold heapOk at q
  simp only [Bool.and_eq_true] at q
  exact arenaOk_iff.1 q.1
def threads (p:DPart) (now:Int):List Int:=if partOk p then collI (fun k b=>b&&((nth p.heap.arena (k:Int)).kind==4)) (fun k _=>(k:Int)) 0 (reach p.heap.arena now) else []
theorem partOk_ar {p:DPart} (h:partOk p=true):Ar p.heap.arena:=by
  unfold partOk heapOk at h
  simp only [Bool.and_eq_true] at h
  exact arenaOk_iff.1 h.2.2.2.1.1
theorem threads_rng {p:DPart} {now k:Int} (h:k ∈ threads p now):partOk p=true∧0≤k∧k≤9:=by
  unfold threads at h
  split at h
  · rename_i hp
    obtain ⟨j,b,h1,_,h3⟩:=collI_mem.1 h
    have:=lt_of_some h1
    rw [reach_len (partOk_ar hp)] at this
    have h3:k=((0+j:Nat):Int):=h3
    exact ⟨hp,by omega,by omega⟩
  · simp at h
theorem threadsLoop {N:Nat} (hN:BIG≤N) {l:List DObj} (h:Ar l) {now:Int} {body:List Int×Int→Option ((List Int×Int)⊕(List Int×Int))}
    (hs:∀ (k:Nat) (t:List Int) (b:Bool),(reach l now)[k]?=some b→k<10→t.length≤k→body (t,(k:Int))=some (.inl (if b&&((nth l (k:Int)).kind==4) then t++[(k:Int)] else t,((k+1:Nat):Int))))
    (he:∀ t,body (t,10)=some (.inr (t,10))):iter body N ([],0)=some (collI (fun k b=>b&&((nth l (k:Int)).kind==4)) (fun k _=>(k:Int)) 0 (reach l now),10):=by
  have hl:=reach_len h now
  have e:((reach l now).length:Int)=10:=by omega
  rw [iter_coll (reach l now) (fun k b=>b&&((nth l (k:Int)).kind==4)) (fun k _=>(k:Int)) (by rw [hl];decide) hN,e]
  · intro k t b hb hk ht
    exact hs k t b hb (by omega) ht
  · intro t;rw [e];exact he t
theorem i_Threads {N:Nat} (hN:BIG≤N) {p:DPart} (hb:sz_DPart p<BIG) (now:Int):F_i_Threads N p now=some (threads p now):=by
  unfold F_i_Threads threads
  rw [i_PartOk hN hb,Option.bind_some]
  cases hp:partOk p
  · rfl
  have h:=partOk_ar hp
  have hl:=reach_len h now
  simp only [Bool.not_true,cond_false,i_Reach hN (szPart hb).2.2.2.1,Option.bind_some,if_true]
  rw [threadsLoop hN h]
  · rfl
  · intro k t b hy hk ht
    have hd:decide ((k:Int)<((reach p.heap.arena now).length:Int))=true:=by simp;omega
    simp only [hd,cond_true]
    rw [(h.at (i:=(k:Int)) (by omega) (by omega)).1]
    simp only [idx_nat,hy,Option.bind_some,bAnd,wrap1 (show k<BIG from Nat.lt_trans hk (by decide)),app1 ht (show k+1<BIG from Nat.lt_trans (Nat.succ_lt_succ hk) (by decide))]
    cases (b&&((nth p.heap.arena (k:Int)).kind==4)) <;> rfl
  · intro t
    simp only [hl];rfl
theorem s_Threads {N:Nat} (hN:BIG≤N) {p:DPart} (hb:sz_DPart p<BIG) (hw:wP p) (now:Int):F_s_Threads N p now=some (threads p now):=by
  unfold F_s_Threads threads
  rw [s_PartOk hN hb hw,Option.bind_some]
  cases hp:partOk p
  · rfl
  have h:=partOk_ar hp
  have hl:=reach_len h now
  simp only [Bool.not_true,cond_false,s_Reach hN (szPart hb).2.2.2.1 hw,Option.bind_some,if_true]
  rw [threadsLoop hN h]
  · rfl
  · intro k t b hy hk ht
    have hd:decide ((k:Int)<((reach p.heap.arena now).length:Int))=true:=by simp;omega
    simp only [hd,cond_true]
    rw [(h.at (i:=(k:Int)) (by omega) (by omega)).1]
    simp only [idx_nat,hy,Option.bind_some,bAnd,wrap1 (show k<BIG from Nat.lt_trans hk (by decide)),app1 ht (show k+1<BIG from Nat.lt_trans (Nat.succ_lt_succ hk) (by decide))]
    cases (b&&((nth p.heap.arena (k:Int)).kind==4)) <;> rfl
  · intro t
    simp only [hl];rfl
theorem threads_len (p:DPart) (now:Int):(threads p now).length<BIG:=by
  unfold threads
  split
  · rename_i hp
    refine Nat.lt_of_le_of_lt (collI_len _ _ _ _) ?_
    rw [reach_len (partOk_ar hp)];decide
  · decide
def canCall (p:DPart) (now:Int) (th:Int):Bool:=(threads p now).contains th&&((nth p.heap.arena th).wait==0)
theorem s_CanCall {N:Nat} (hN:BIG≤N) {p:DPart} (hb:sz_DPart p<BIG) (hw:wP p) (now th:Int):F_s_CanCall N p now th=some (canCall p now th):=by
  unfold F_s_CanCall canCall
  simp only [s_Threads hN hb hw,Option.bind_some,s_l4Has hN (threads_len p now)]
  cases hc:(threads p now).contains th
  · rfl
  · obtain ⟨h1,h2,h3⟩:=threads_rng (List.contains_iff_mem.1 hc)
    simp only [cond_true,((partOk_ar h1).at h2 h3).1,Option.bind_some,Bool.true_and]
end Go.Kx
/- Plain laws: sizes of what is right; a thing put into an arena; what is born. No program in sight. -/
namespace Go.Kx
open Go
set_option linter.unusedVariables false
set_option linter.unusedSimpArgs false
set_option maxRecDepth 10000
theorem sumL_le {α:Type} {f:α→Nat} {c:Nat}:∀ {l:List α},(∀ y,y ∈ l→f y≤c)→sumL f l≤c * l.length
  | [],_=>Nat.zero_le _
  | y::l,h=>by
    have h1:=h y (by simp)
    have h2:=sumL_le (l:=l) fun z hz=>h z (by simp [hz])
    simp only [sumL,List.length_cons,Nat.mul_add];omega
theorem sumL_set {α:Type} {f:α→Nat} {y:α}:∀ {l:List α} {k:Nat},sumL f (l.set k y)≤sumL f l+f y
  | [],k=>by simp [sumL]
  | z::l,0=>by simp only [List.set_cons_zero,sumL];omega
  | z::l,k+1=>by
    have:=sumL_set (f:=f) (y:=y) (l:=l) (k:=k)
    simp only [List.set_cons_succ,sumL];omega
theorem szL_set {α:Type} {f:α→Nat} {y:α} {l:List α} {k:Nat}:szL f (l.set k y)≤szL f l+f y:=by
  have:=sumL_set (f:=f) (y:=y) (l:=l) (k:=k)
  unfold szL
  simp only [List.length_set];omega
theorem objOk_sz {o:DObj} (h:objOk o=true):sz_DObj o≤12:=by
  have hl:=(objOk_links h).1
  unfold objOk at h
  unfold sz_DObj
  cases hk:o.kind==0
  · simp only [hk,cond_false,Bool.and_eq_true] at h
    obtain ⟨_,_,_,_,_,hp,hl2,_⟩:=h
    unfold listsOk at hl2
    simp only [Bool.and_eq_true,decide_eq_true_eq,beq_iff_eq] at hl2
    obtain ⟨_,_,_,_,hd,hq⟩:=hl2
    rw [inR_iff] at hp
    have:o.data.length≤8:=by
      cases h2:o.kind==2
      · rw [h2] at hd;simp only [cond_false] at hd;omega
      · rw [h2] at hd;simp only [cond_true] at hd;omega
    have:o.queue.length≤2:=by
      cases h3:o.kind==3
      · rw [h3] at hq;simp only [cond_false] at hq;omega
      · rw [h3] at hq;simp only [cond_true] at hq;omega
    omega
  · simp only [hk,cond_true,Bool.and_eq_true,decide_eq_true_eq] at h
    rw [h.2.2];simp [blank]
theorem Ar.sz {l:List DObj} (h:Ar l):szL sz_DObj l≤130:=by
  have h1:=sumL_le (f:=sz_DObj) (c:=12) fun y hy=>objOk_sz (h.ok y hy)
  have h2:=h.len
  unfold szL
  rw [h2] at h1 ⊢
  omega
theorem wA_set {l:List DObj} {k:Nat} {o:DObj} (h:wA l) (ho:wOk o):wA (l.set k o):=fun y hy=>by
  rcases List.mem_or_eq_of_mem_set hy with q | q
  · exact h y q
  · rw [q];exact ho
def genned (o:DObj) (g:Int):DObj:=DObj.mk g o.kind o.box o.res o.til o.pages o.wait o.got o.ran o.mark o.links o.data o.queue
def putAt (l:List DObj) (o:DObj) (k:Nat) (x:DObj):List DObj×Int:=if arenaOk (l.set k (genned o (IntKind.i64.wrap (x.gen+1))))&&(o.kind != 0) then (l.set k (genned o (IntKind.i64.wrap (x.gen+1))),(k:Int)) else (l, -1)
def putGo (l:List DObj) (o:DObj):Nat→List DObj→List DObj×Int
  | _,[]=>(l, -1)
  | k,x::m=>if x.kind != 0 || decide (x.gen ≥ 999) then putGo l o (k+1) m else putAt l o k x
def arenaPut (l:List DObj) (o:DObj):List DObj×Int:=if arenaOk l then putGo l o 1 (l.drop 1) else (l, -1)
theorem iter_put {ρ:Type} {body:Int→Option (Int⊕ρ)} (l:List DObj) (p:DObj→Bool) (g:Nat→DObj→ρ) (r:ρ) {N:Nat} (hN:l.length+1<N) (hl:1≤l.length)
    (hs:∀ (k:Nat) (x:DObj),l[k]?=some x→1≤k→k<l.length→body (k:Int)=some (if p x then .inl ((k+1:Nat):Int) else .inr (g k x))) (he:body (l.length:Int)=some (.inr r)) :
    iter body N 1=some (runL (fun k (_:Unit) x=>if p x then .inl () else .inr (g (k+1) x)) (fun _=>r) 0 () (l.drop 1)):=by
  have hd:(l.drop 1).length+1=l.length:=by simp;omega
  rw [show (1:Int)=(fun (k:Nat) (_:Unit)=>((k+1:Nat):Int)) 0 () from rfl,
    iter_list (l.drop 1) (fun (k:Nat) (_:Unit)=>((k+1:Nat):Int)) (fun k _ x=>if p x then .inl () else .inr (g (k+1) x)) (fun _=>r) (fun _ _=>True) ?_ ?_ (by omega) trivial]
  · intro k _ x hx hk _
    have hx:l[k+1]?=some x:=by rw [← hx,List.getElem?_drop,Nat.add_comm]
    refine ⟨?_,fun _ _=>trivial⟩
    show body ((k+1:Nat):Int)=_
    rw [hs (k+1) x hx (by omega) (by omega)]
    cases p x <;> rfl
  · intro _ _
    simp only [hd]
    exact he
theorem put_run {ρ:Type} (l:List DObj) (o:DObj) (r:ρ) (c:ρ→Option (List DObj×Int)) (g:Nat→DObj→ρ) (hr:c r=some (l, -1)) (hg:∀ k x,c (g k x)=some (putAt l o k x)):∀ (m:List DObj) (k:Nat),
    c (runL (fun k (_:Unit) x=>if x.kind != 0 || decide (x.gen ≥ 999) then .inl () else .inr (g (k+1) x)) (fun _=>r) k () m)=some (putGo l o (k+1) m)
  | [],k=>hr
  | x::m,k=>by
    unfold runL putGo
    cases h:(x.kind != 0 || decide (x.gen ≥ 999))
    · simp only [Bool.false_eq_true,if_false];exact hg _ _
    · simp only [if_true];exact put_run l o r c g hr hg m (k+1)
theorem genned_sz (o:DObj) (g:Int):sz_DObj (genned o g)=sz_DObj o:=rfl
theorem genned_w {o:DObj} {g:Int} (h:wOk o):wOk (genned o g):=h
theorem setB {l:List DObj} (h:Ar l) {o:DObj} (ho:sz_DObj o≤100000) (k:Nat):szL sz_DObj (l.set k o)<BIG:=by
  have h1:=h.sz
  have h2:=szL_set (f:=sz_DObj) (y:=o) (l:=l) (k:=k)
  have:(16777216:Nat)=BIG:=rfl
  omega
theorem s_ArenaPut {N:Nat} (hN:BIG≤N) {l:List DObj} (hb:szL sz_DObj l<BIG) (hw:wA l) {o:DObj} (ho:sz_DObj o≤100000) (hwo:wOk o):F_s_ArenaPut N l o=some (arenaPut l o):=by
  have hB:(16777216:Nat)=BIG:=rfl
  have hoB:sz_DObj o<BIG:=by omega
  unfold F_s_ArenaPut arenaPut
  simp only [s_l8Copy hN hb,s_ArenaOk hN hb hw,Option.bind_some]
  cases ha:arenaOk l
  · rfl
  have h:=arenaOk_iff.1 ha
  have hl:=h.len
  simp only [Bool.not_true,cond_false,if_true]
  rw [iter_put l (fun x=>x.kind != 0 || decide (x.gen ≥ 999)) (fun k x=>Sum.inr (putAt l o k x)) (Sum.inl (l.length:Int)) (by omega) (by omega)]
  · simp only [Option.bind_some]
    exact put_run l o (Sum.inl (l.length:Int)) (fun o84=>Sum.elim (fun o84=>some (l, -1)) (fun r87=>some r87) o84) (fun k x=>Sum.inr (putAt l o k x)) rfl (fun k x=>rfl) _ 0
  · intro k x hx hk1 hkl
    simp only [lt_dec hkl,cond_true,idx_nat,hx,Option.bind_some,bOr,wrap1 (show k<BIG by omega),s_l8Obj hoB,Int.toNat_natCast]
    rw [show DObj.mk (IntKind.i64.wrap (x.gen+1)) o.kind o.box o.res o.til o.pages o.wait o.got o.ran o.mark o.links o.data o.queue=genned o (IntKind.i64.wrap (x.gen+1)) from rfl,s_ArenaOk hN (setB h (by rw [genned_sz];exact ho) k) (wA_set hw (genned_w hwo))]
    simp only [Option.bind_some,bOr]
    unfold putAt
    have hk:(o.kind==0)=!(o.kind != 0):=by simp [bne]
    rw [hk]
    cases (x.kind != 0 || decide (x.gen ≥ 999))
    · cases arenaOk (l.set k (genned o (IntKind.i64.wrap (x.gen+1)))) <;> cases (o.kind != 0) <;> rfl
    · rfl
  · simp only [ge_dec,cond_false]
def marked (o:DObj) (m:Bool):DObj:=DObj.mk o.gen o.kind o.box o.res o.til o.pages o.wait o.got o.ran m o.links o.data o.queue
def gcBorn (h:DHeap) (i:Int):DHeap:=if heapOk h&&(inR i 0 9&&((nth h.arena i).kind != 0)) then DHeap.mk (h.arena.set i.toNat (marked (nth h.arena i) ((h.gc.phase==0) || decide (i ≥ h.gc.pos)))) h.gc else h
theorem s_GcBorn {N:Nat} (hN:BIG≤N) {h:DHeap} (h1:szL sz_DObj h.arena<BIG) (h2:h.gc.grey.length<BIG) (hw:wA h.arena) (i:Int):F_s_GcBorn N h i=some (gcBorn h i):=by
  unfold F_s_GcBorn gcBorn
  simp only [s_l10Copy hN h1 h2,s_HeapOk hN h1 h2 hw,s_l8Slot,Option.bind_some,bne]
  cases q:heapOk h
  · rfl
  cases hi:inR i 0 9
  · rfl
  have hr:=inR_iff.1 hi
  simp only [Bool.not_true,cond_false,((heapOk_ar q).at hr.1 hr.2).1,Option.bind_some,Bool.true_and]
  cases (nth h.arena i).kind==0
  · cases h.gc.phase==0 <;> rfl
  · rfl
end Go.Kx
/- Plain laws: a new part. No program in sight. -/
namespace Go.Kx
open Go
set_option linter.unusedVariables false
set_option linter.unusedSimpArgs false
set_option maxRecDepth 10000
def arenaNew:List DObj:=(List.replicate 10 (blank 0)).set 0 (DObj.mk 0 1 (-1) 0 1000000 0 0 0 0 false [-1, -1] [] [])
def aThread:DObj:=DObj.mk 0 4 0 0 1000000 0 0 0 0 false [-1, -1] [] []
def arena1:List DObj:=arenaNew.set 1 (genned aThread 1)
def arena2:List DObj:=arenaNew.set 1 (marked (genned aThread 1) true)
theorem s_ArenaNew (N:Nat):F_s_ArenaNew N=some arenaNew:=rfl
theorem arenaPut_new:arenaPut arenaNew aThread=(arena1,1):=by decide
theorem arenaNew_w:wA arenaNew:=by
  intro o ho
  have:∀ o ∈ arenaNew, -9223372036854775808≤o.wait:=by decide
  exact this o ho
theorem arena1_w:wA arena1:=by
  intro o ho
  have:∀ o ∈ arena1, -9223372036854775808≤o.wait:=by decide
  exact this o ho
def newHeap:DHeap:=DHeap.mk arena2 (DGc.mk 0 0 0 [0])
theorem gcBorn_new:gcBorn (DHeap.mk arena1 (DGc.mk 0 0 0 [0])) 1=newHeap:=by decide
def treeNew (a:DAmt):List DRes:=(List.replicate 5 zRes).set 0 (DRes.mk true (-1) a)
theorem s_TreeNew (N:Nat) (a:DAmt):F_s_TreeNew N a=some (if amtOk a then (treeNew a,true) else ([],false)):=by
  unfold F_s_TreeNew
  rw [s_AmtOk,Option.bind_some]
  cases amtOk a <;> rfl
def zPart:DPart:=DPart.mk (DLabel.mk []) [] [] (DHeap.mk [] (DGc.mk 0 0 0 [])) [] 0 0 (DAmt.mk 0 0 0) 0 0
def newPart (b:DBoot):DPart:=DPart.mk b.label b.own (treeNew b.amt) newHeap [] 0 0 (DAmt.mk 0 0 0) 0 0
def bOk (b:DBoot):Bool:=amtOk b.amt&&(labelOk b.label&&ownOk b.own)
def partNew (b:DBoot):DPart×Bool:=if bOk b then (newPart b,true) else (zPart,false)
theorem aThread_w:wOk aThread:=by show (-9223372036854775808:Int)≤0;decide
theorem newPart_sz (b:DBoot):sz_DPart (newPart b)=sz_DBoot b+20:=by
  show sz_DLabel b.label+(b.own.length+((treeNew b.amt).length+((szL sz_DObj newHeap.arena+((newHeap.gc.grey.length+0)+0))+(([]:List DTap).length+0))))=sz_DLabel b.label+(b.own.length+0)+20
  have h1:szL sz_DObj newHeap.arena=14:=by decide
  have h2:newHeap.gc.grey.length=1:=by decide
  have h3:(treeNew b.amt).length=5:=rfl
  have h4:([]:List DTap).length=0:=rfl
  simp only [h1,h2,h3,h4]
  omega
theorem s_PartNew {N:Nat} (hN:BIG≤N) {b:DBoot} (hb:sz_DBoot b≤1048576):F_s_PartNew N b=some (partNew b):=by
  have h1:b.label.levels.length<BIG∧b.own.length<BIG:=by have:(16777216:Nat)=BIG:=rfl;unfold sz_DBoot sz_DLabel at hb;omega
  unfold F_s_PartNew partNew bOk
  simp only [s_TreeNew,s_LabelOk hN h1.1,s_OwnOk hN h1.2,Option.bind_some,bOr]
  cases amtOk b.amt
  · cases labelOk b.label <;> cases ownOk b.own <;> rfl
  cases labelOk b.label
  · rfl
  cases ownOk b.own
  · rfl
  simp only [if_true,Bool.not_true,Bool.or_self,cond_false,Bool.and_self,s_ArenaNew,Option.bind_some]
  rw [show DObj.mk 0 4 0 0 1000000 0 0 0 0 false ([-1, -1]:List Int) [] []=aThread from rfl,s_ArenaPut hN (by decide) arenaNew_w (by decide) aThread_w,arenaPut_new]
  simp only [Option.bind_some]
  rw [show F_s_GcNew N=some (DGc.mk 0 0 0 [0]) from rfl]
  simp only [Option.bind_some]
  rw [s_GcBorn hN (by decide) (by decide) arena1_w,gcBorn_new]
  simp only [Option.bind_some]
  rw [show DPart.mk b.label b.own (treeNew b.amt) newHeap [] 0 0 (DAmt.mk 0 0 0) 0 0=newPart b from rfl,s_l13Copy hN (by rw [newPart_sz];have:(16777216:Nat)=BIG:=rfl;omega)]
  rfl
end Go.Kx
