import Derived.Test.YtlcgibcdiikheaaGreatLBoot
namespace Go.Kx
open Go
open Go.IntKind (i64)
set_option linter.unusedVariables false
set_option linter.unusedSimpArgs false
set_option maxRecDepth 10000
theorem Em {σ ρ:Type} {body:σ→Option (σ⊕ρ)} (μ:σ→Nat) (I:σ→Prop) (Q:ρ→Prop) (h:∀ s,I s→(∃ s',body s=some (.inl s')∧I s'∧μ s'<μ s)∨∃ r,body s=some (.inr r)∧Q r):∀ (N:Nat) (s:σ),I s→μ s<N→∃ r,iter body N s=some r∧Q r
  | 0,s,_,hN=>by omega
  | N+1,s,hI,hN=>by
    unfold iter
    rcases h s hI with ⟨s',h1,h2,h3⟩ | ⟨r,h1,h2⟩
    · rw [h1];exact Em μ I Q h N s' h2 (by omega)
    · rw [h1];exact ⟨r,rfl,h2⟩
theorem wN {α β:Type} {p:Nat→α→Bool} {h:Nat→α→β} {z:β}:∀ {l:List α} {k:Nat},z ∈ mF p h k l ↔ ∃ (i:Nat) (y:α),l[i]?=some y∧p (k+i) y=true∧z=h (k+i) y
  | [],k=>by simp [mF]
  | y::l,k=>by
    have ih:=wN (p:=p) (h:=h) (z:=z) (l:=l) (k:=k+1)
    have key:(∃ (i:Nat) (x:α),(y::l)[i]?=some x∧p (k+i) x=true∧z=h (k+i) x) ↔ (p k y=true∧z=h k y)∨z ∈ mF p h (k+1) l:=by
      rw [ih];constructor
      · rintro ⟨i,x,h1,h2,h3⟩
        cases i with
        | zero=>simp at h1;subst h1;exact .inl ⟨h2,h3⟩
        | succ i=>exact .inr ⟨i,x,by simpa using h1,by rwa [show k+1+i=k+(i+1) by omega],by rwa [show k+1+i=k+(i+1) by omega]⟩
      · rintro (⟨h2,h3⟩ | ⟨i,x,h1,h2,h3⟩)
        · exact ⟨0,y,rfl,h2,h3⟩
        · exact ⟨i+1,x,by simpa using h1,by rwa [show k+(i+1)=k+1+i by omega],by rwa [show k+(i+1)=k+1+i by omega]⟩
    rw [key,show mF p h k (y::l)=if p k y then h k y::mF p h (k+1) l else mF p h (k+1) l from rfl];cases hp:p k y<;>simp
structure Ar (l:List gP):Prop where
  len:l.length=10
  Og:(nth l 0).Pf=1
  OA:(nth l 0).box=-1
  OY:(nth l 0).iz=1000000
  ok:∀ o,o ∈ l→kg o=true
  gZ:∀ o,o ∈ l→∀ y,y ∈ o.gZ→0≤y→(nth l y).Pf ≠ 0
  box:∀ (k:Nat) (o:gP),l[k]?=some o→0<k→o.Pf ≠ 0→0≤o.box→(nth l o.box).Pf ≠ 0
theorem HS {l:List gP} {k:Nat} {o:gP}:uf l k o=true ↔ kg o=true∧(0<k→o.Pf ≠ 0→0≤o.box→(nth l o.box).Pf ≠ 0)∧∀ y,y ∈ o.gZ→0≤y→(nth l y).Pf ≠ 0:=by
  unfold uf wu vc;simp only [PG,List.all_eq_true,Bool.not_eq_true',Bool.and_eq_false_iff,decide_eq_false_iff_not,bne_eq_false_iff_eq,beq_eq_false_iff_ne,ne_eq];constructor
  · rintro ⟨⟨h1,h2⟩,h3⟩;refine ⟨h1,fun a b c=>?_,fun y hy h0=>?_⟩
    · rcases h2 with q | q | q | q
      · omega
      · exact absurd q b
      · omega
      · exact q
    · rcases h3 y hy with q | q
      · omega
      · exact q
  · rintro ⟨h1,h2,h3⟩;refine ⟨⟨h1,?_⟩,fun y hy=>?_⟩
    · by_cases a:0<k
      · by_cases b:o.Pf=0
        · exact .inr (.inl b)
        · by_cases c:0≤o.box
          · exact .inr (.inr (.inr (h2 a b c)))
          · exact .inr (.inr (.inl (by omega)))
      · exact .inl (by omega)
    · by_cases c:0≤y
      · exact .inr (h3 y hy c)
      · exact .inl (by omega)
theorem kl {l:List gP}:jX l=true ↔ Ar l:=by
  unfold jX vP;simp only [PG,Bool.not_eq_true',bne_eq_false_iff_eq,Bool.or_eq_false_iff,l7,Nat.zero_add,HS];constructor
  · rintro ⟨h1,⟨h2,h3,h4⟩,h5⟩;have hm:∀ o,o ∈ l→∃ k:Nat,l[k]?=some o:=fun o ho=>List.getElem?_of_mem ho;refine ⟨by omega,h2,h3,h4,fun o ho=>?_,fun o ho=>?_,fun k o hk=>?_⟩
    · obtain ⟨k,hk⟩:=hm o ho;exact (h5 k o hk).1
    · obtain ⟨k,hk⟩:=hm o ho;exact (h5 k o hk).2.2
    · exact (h5 k o hk).2.1
  · intro h;refine ⟨by have:=h.len;omega,⟨h.Og,h.OA,h.OY⟩,fun i y hy=>⟨h.ok y (List.mem_of_getElem? hy),h.box i y hy,h.gZ y (List.mem_of_getElem? hy)⟩⟩
theorem Ar.at {l:List gP} (h:Ar l) {i:Int} (h0:0≤i) (h9:i≤9):idx l i=some (nth l i)∧nth l i ∈ l:=⟨i9 h0 (by have:=h.len;omega),kZ h0 (by have:=h.len;omega)⟩
theorem Ar.xh {l:List gP} (h:Ar l):l.length<gT:=by rw [h.len];decide
def jr (o:gP) (now:Int):Bool:=bif o.Pf==0 then true else decide (o.iz<now)
theorem xc (N:Nat) (o:gP) (now:Int):mK N o now=some (jr o now):=pD _ _ _
theorem va (N:Nat) (o:gP) (now:Int):lS N o now=some (jr o now):=pD _ _ _
def Am (l:List gP) (i:Int) (k:Nat) (y:gP):Bool:=(decide ((k:Int) > 0)&&(y.Pf != 0&&((y.box==i)&&((nth l i).Pf==1)))) || (nth l i).gZ.contains (k:Int)
def lN (l:List gP) (i:Int):List Int:=mF (Am l i) (fun k _=>(k:Int)) 0 l
theorem JW {o:gP} (h:kg o=true):o.gZ.length<gT:=Nat.lt_of_le_of_lt (uR h).1 (by decide)
theorem wT {l:List gP} {i k:Int} (h:k ∈ lN l i):0≤k∧k<(l.length:Int):=by
  obtain ⟨j,y,h1,_,h3⟩:=wN.1 h;have:=je h1;have h3:k=((0+j:Nat):Int):=h3;omega
theorem JY (l:List gP) (i:Int):(lN l i).length≤l.length:=wY _ _ _ _
theorem Cp {N:Nat} (hN:gT≤N) {l:List gP} (h:Ar l) {i:Int} (h0:0≤i) (h9:i≤9):oL N l i=some (lN l i):=by
  obtain ⟨q1,q2⟩:=h.at h0 h9;have hB:=h.xh;unfold oL lN;rw [n4 l (Am l i) (fun k _=>(k:Int)) hB hN]
  · rfl
  · intro k t y hy hk ht;simp only [iF hk,PD,ik,hy,PB,q1,tP hN (JW (h.ok _ q2)),kI,j1,iJ (Nat.lt_trans hk hB),kB ht (Nat.lt_of_le_of_lt hk hB)]
    show (bif Am l i k y then _ else _)=_
    cases Am l i k y<;>rfl
  · intro t;simp only [iG,PC]
theorem Hl {l:List gP} (h:Ar l) {i:Int} (h0:0≤i) (h9:i≤9) (hk:(nth l i).Pf=0):lN l i=[]:=by
  obtain ⟨_,q2⟩:=h.at h0 h9
  have hl:(nth l i).gZ=[]:=by
    have:=h.ok _ q2;unfold kg at this;simp only [hk,beq_self_eq_true,PD,PG,decide_eq_true_eq] at this;rw [this.2.2];rfl
  rw [List.eq_nil_iff_forall_not_mem];intro k hm;obtain ⟨j,y,_,h2,_⟩:=wN.1 hm;simp [Am,hk,hl] at h2
theorem Gp {N:Nat} (hN:gT≤N) {l:List gP} (hb:iQ hY l<gT) (hw:wA l) (h:Ar l) {i:Int} (h0:0≤i) (h9:i≤9):rq N l i=some (lN l i):=by
  obtain ⟨q1,q2⟩:=h.at h0 h9;have hB:=h.xh
  have hi:ig i 0 9=true:=by rw [iW];omega
  unfold rq;simp only [rF hN hb hw,kl.2 h,qV,hi,q1,PB,PE,PC];cases hk:(nth l i).Pf==0
  · simp only [PC];unfold lN;rw [n4 l (Am l i) (fun k _=>(k:Int)) hB hN]
    · rfl
    · intro k t y hy hk ht;simp only [iF hk,PD,ik,hy,PB,xy hN (JW (h.ok _ q2)),kI,j1,iJ (Nat.lt_trans hk hB),kB ht (Nat.lt_of_le_of_lt hk hB)];unfold Am;cases decide ((k:Int) > 0)
      · cases (nth l i).gZ.contains (k:Int)<;>rfl
      cases y.Pf != 0
      · cases (nth l i).gZ.contains (k:Int)<;>rfl
      cases y.box==i
      · cases (nth l i).gZ.contains (k:Int)<;>rfl
      · cases ((nth l i).Pf==1)<;>cases (nth l i).gZ.contains (k:Int)<;>rfl
    · intro t;simp only [iG,PC]
  · rw [Hl h h0 h9 (by simpa using hk)];rfl
inductive Reaches (l:List gP) (now:Int):Int→Prop
  | root:Reaches l now 0
  | step {i k:Int}:Reaches l now i→k ∈ lN l i→jr (nth l k) now=false→Reaches l now k
theorem Reaches.Ab {l:List gP} {now:Int} (h:Ar l) {k:Int} (hr:Reaches l now k):0≤k∧k≤9:=by
  cases hr with
  | root=>omega
  | step _ h2 _=>have:=wT h2;have:=h.len;omega
def tx:List Bool→Nat
  | []=>0
  | b::r=>(if b then 0 else 1)+tx r
theorem GS:∀ {r:List Bool} {k:Nat},r[k]?=some false→tx (r.set k true)+1=tx r
  | b::r,0,h=>by simp at h;subst h;simp [tx];omega
  | b::r,k+1,h=>by
    have:=GS (r:=r) (k:=k) (by simpa using h);simp only [List.set_cons_succ,tx];omega
def yW (r q:List Bool):Prop:=∀ k:Nat,r[k]?=some true→q[k]?=some true
theorem Dm:∀ {r q:List Bool},r.length=q.length→yW r q→tx r≤tx q→r=q
  | [],[],_,_,_=>rfl
  | b::r,c::q,hl,h,hc=>by
    have hl':r.length=q.length:=by simpa using hl
    have h':yW r q:=fun k hk=>by simpa using h (k+1) (by simpa using hk)
    have key:∀ {r q:List Bool},r.length=q.length→yW r q→tx q≤tx r:=by
      intro r
      induction r with
      | nil=>intro q hl _;cases q with
        | nil=>exact Nat.le_refl _
        | cons=>simp at hl
      | cons b r ih =>
        intro q hl h
        cases q with
        | nil=>simp at hl
        | cons c q =>
          have:=ih (q:=q) (by simpa using hl) (fun k hk=>by simpa using h (k+1) (by simpa using hk));have h0:=h 0;simp at h0;simp only [tx];cases b<;>cases c<;>simp_all<;>omega
    have h0:=h 0;simp at h0;have:=key hl' h';simp only [tx] at hc;cases b<;>cases c
    · exact congrArg _ (Dm hl' h' (by simpa using hc))
    · exfalso;simp at hc;omega
    · simp at h0
    · exact congrArg _ (Dm hl' h' (by simpa using hc))
theorem GN {r:List Bool} {k:Nat}:yW r (r.set k true):=fun j hj=>by
  rw [List.getElem?_set];split
  · rename_i e;subst e;rw [if_pos (je hj)]
  · exact hj
theorem setAt {r:List Bool} {k j:Nat} (h:(r.set k true)[j]?=some true):j=k∨r[j]?=some true:=by
  rw [List.getElem?_set] at h;split at h
  · exact .inl (by omega)
  · exact .inr h
def wQ (l:List gP) (now:Int) (r:List Bool) (y:Int):List Bool:=if jr (nth l y) now then r else r.set y.toNat true
def visit (l:List gP) (now:Int) (k:Nat) (r:List Bool) (o:gP):List Bool:=if !(nth r (k:Int)) || (jr o now&&decide ((k:Int) > 0)) then r else (lN l (k:Int)).foldl (wQ l now) r
def uN (l:List gP) (now:Int) (r:List Bool):List Bool:=foldI (visit l now) 0 r l
def rm (l:List gP) (now:Int):Nat→List Bool→List Bool
  | 0,r=>r
  | n+1,r=>rm l now n (uN l now r)
def reach (l:List gP) (now:Int):List Bool:=if jX l then rm l now 10 ((List.replicate 10 false).set 0 true) else []
theorem Bx (l:List gP) (now:Int) (r:List Bool) (y:Int):(wQ l now r y).length=r.length:=by unfold wQ;split<;>simp
theorem DI (l:List gP) (now:Int):∀ (e:List Int) (r:List Bool),(e.foldl (wQ l now) r).length=r.length
  | [],r=>rfl
  | y::e,r=>by rw [List.foldl_cons,DI l now e,Bx]
theorem wL (l:List gP) (now:Int) (k:Nat) (r:List Bool) (o:gP):(visit l now k r o).length=r.length:=by
  unfold visit;split
  · rfl
  · exact DI _ _ _ _
theorem Ng (l:List gP) (now:Int) (r:List Bool) (y:Int):yW r (wQ l now r y):=by
  unfold wQ;split
  · exact fun _ h=>h
  · exact GN
theorem Bz (l:List gP) (now:Int):∀ (e:List Int) (r:List Bool),yW r (e.foldl (wQ l now) r)
  | [],r=>fun _ h=>h
  | y::e,r=>fun k hk=>Bz l now e _ k (Ng l now r y k hk)
theorem DU (l:List gP) (now:Int) (k:Nat) (r:List Bool) (o:gP):yW r (visit l now k r o):=by
  unfold visit;split
  · exact fun _ h=>h
  · exact Bz _ _ _ _
theorem EN (l:List gP) (now:Int):∀ (e:List Int) (r:List Bool),(∀ y,y ∈ e→y.toNat<r.length)→∀ y,y ∈ e→jr (nth l y) now=false→(e.foldl (wQ l now) r)[y.toNat]?=some true
  | z::e,r,hr,y,hy,hx=>by
    rw [List.foldl_cons]
    rcases List.mem_cons.1 hy with rfl | hy
    · refine Bz l now e _ _ ?_;unfold wQ;rw [if_neg (by simp [hx]),List.getElem?_set_self (hr y (by simp))]
    · exact EN l now e _ (fun x h=>by rw [Bx];exact hr x (by simp [h])) y hy hx
def vw (l:List gP) (now:Int) (r:List Bool):Prop:=∀ k:Nat,r[k]?=some true→Reaches l now (k:Int)
theorem Es {l:List gP} {now i:Int} (hi:Reaches l now i):∀ (e:List Int) (r:List Bool),(∀ y,y ∈ e→y ∈ lN l i)→vw l now r→vw l now (e.foldl (wQ l now) r)
  | [],r,_,h=>h
  | y::e,r,he,h=>by
    rw [List.foldl_cons];refine Es hi e _ (fun x hx=>he x (by simp [hx])) ?_;unfold wQ;split
    · exact h
    · rename_i hx;intro k hk
      rcases setAt hk with q | q
      · have hy:=he y (by simp);have:=wT hy
        have e:(k:Int)=y:=by omega
        rw [e];exact .step hi hy (by simpa using hx)
      · exact h k q
theorem Ae {r:List Bool} {k:Nat}:nth r (k:Int)=true ↔ r[k]?=some true:=by
  unfold nth;rw [Int.toNat_natCast]
  cases h:r[k]? with
  | none=>simp;try rfl
  | some b=>simp
theorem yR {l:List gP} {now:Int} {k:Nat} {r:List Bool} {o:gP} (h:vw l now r):vw l now (visit l now k r o):=by
  unfold visit;split
  · exact h
  · rename_i hc;simp only [Bool.or_eq_true,Bool.not_eq_true',not_or,Bool.not_eq_false] at hc;exact Es (h k (Ae.1 hc.1)) _ _ (fun _ hy=>hy) h
theorem xj {l:List gP} {now:Int}:∀ (m:List gP) (k:Nat) (r:List Bool),vw l now r→(foldI (visit l now) k r m).length=r.length∧yW r (foldI (visit l now) k r m)∧vw l now (foldI (visit l now) k r m)
  | [],k,r,h=>⟨rfl,fun _ h=>h,h⟩
  | o::m,k,r,h=>by
    obtain ⟨h1,h2,h3⟩:=xj m (k+1) (visit l now k r o) (yR h);exact ⟨by unfold foldI;rw [h1,wL],fun j hj=>h2 j (DU l now k r o j hj),h3⟩
def yZ (l:List gP) (now:Int) (r q:List Bool):Prop:=∀ i:Nat,r[i]?=some true→∀ y,y ∈ lN l (i:Int)→jr (nth l y) now=false→q[y.toNat]?=some true
theorem Hq {l:List gP} {now:Int} (h:Ar l) {k:Int} (hr:Reaches l now k) (hk:k ≠ 0):jr (nth l k) now=false:=by
  cases hr with
  | root=>exact absurd rfl hk
  | step _ _ h3=>exact h3
theorem Cj {l:List gP} {now:Int} (h:Ar l):∀ (m:List gP) (k:Nat) (r q:List Bool),(∀ j:Nat,m[j]?=l[k+j]?)→r.length=10→vw l now r→yW q r→∀ i:Nat,k≤i→q[i]?=some true→∀ y,y ∈ lN l (i:Int)→jr (nth l y) now=false→(foldI (visit l now) k r m)[y.toNat]?=some true
  | [],k,r,q,hm,hr,hs,hq,i,hi,hqi,y,hy,hx=>by
    have:=(hs i (hq i hqi)).Ab h;have h2:=hm (i - k);rw [show k+(i - k)=i by omega] at h2;have:=h.len;rw [List.getElem?_eq_getElem (show i<l.length by omega)] at h2;simp at h2
  | o::m,k,r,q,hm,hr,hs,hq,i,hi,hqi,y,hy,hx=>by
    have ho:l[k]?=some o:=by have:=hm 0;simpa using this.symm
    unfold foldI
    rcases Nat.eq_or_lt_of_le hi with e | hlt
    · subst e;refine (xj m (k+1) _ (yR hs)).2.1 _ ?_;have hk:nth r (k:Int)=true:=Ae.2 (hq k hqi)
      have hn:(jr o now&&decide ((k:Int) > 0))=false:=by
        by_cases h0:k=0
        · subst h0;simp
        · have:=Hq h (hs k (hq k hqi)) (by omega);rw [EU ho] at this;simp [this]
      unfold visit;rw [if_neg (by rw [hk,hn];decide)];exact EN l now _ r (fun z hz=>by have:=wT hz;have:=h.len;omega) y hy hx
    · exact Cj h m (k+1) (visit l now k r o) q (fun j=>by have:=hm (j+1);rw [show k+1+j=k+(j+1) by omega, ← this];rfl) (by rw [wL,hr]) (yR hs) (fun j hj=>DU l now k r o j (hq j hj)) i hlt hqi y hy hx
theorem zb {l:List gP} {now:Int} (h:Ar l):∀ (n:Nat) (r:List Bool),r.length=10→vw l now r→(rm l now n r).length=10∧yW r (rm l now n r)∧vw l now (rm l now n r)∧(tx r<n→yZ l now (rm l now n r) (rm l now n r))
  | 0,r,hr,hs=>⟨hr,fun _ h=>h,hs,fun h=>by omega⟩
  | n+1,r,hr,hs=>by
    obtain ⟨p1,p2,p3⟩:=xj (l:=l) (now:=now) l 0 r hs;have p4:=fun i hi=>Cj h l 0 r r (fun j=>by rw [Nat.zero_add]) hr hs (fun _ h=>h) i (Nat.zero_le _) hi;obtain ⟨q1,q2,q3,q4⟩:=zb h n (uN l now r) (by unfold uN;rw [p1,hr]) p3;refine ⟨q1,fun k hk=>q2 k (p2 k hk),q3,fun hc=>?_⟩
    by_cases hcl:tx (uN l now r)<n
    · exact q4 hcl
    · have e:r=uN l now r:=Dm p1.symm p2 (by omega)
      have fix:∀ m,rm l now m r=r:=by
        intro m
        induction m with
        | zero=>rfl
        | succ m ih=>unfold rm;rw [← e,ih]
      rw [fix (n+1)];intro i hi y hy hx;have:=p4 i hi y hy hx
      rwa [show foldI (visit l now) 0 r l=r from e.symm] at this
def Lk (l:List gP) (now:Int) (r:List Bool):Prop:=r.length=10∧∀ k:Nat,r[k]?=some true ↔ Reaches l now (k:Int)
theorem Ji {l:List gP} {now:Int} (h:Ar l) {r:List Bool} (hl:r.length=10) (hs:vw l now r) (h0:r[0]?=some true) (hc:yZ l now r r):Lk l now r:=by
  refine ⟨hl,fun k=>⟨hs k,fun hr=>?_⟩⟩
  have key:∀ j:Int,Reaches l now j→r[j.toNat]?=some true:=by
    intro j hj
    induction hj with
    | root=>exact h0
    | step h1 h2 h3 ih =>
      rename_i i k;have:=(Reaches.Ab h h1);refine hc i.toNat ih k ?_ h3
      rwa [show ((i.toNat:Nat):Int)=i by omega]
  simpa using key k hr
theorem Mz {l:List gP} {now:Int} {r q:List Bool} (h1:Lk l now r) (h2:Lk l now q):r=q:=by
  apply List.ext_getElem? fun k=>?_
  rcases Nat.lt_or_ge k 10 with hk | hk
  · have e:r[k]?=some true ↔ q[k]?=some true:=(h1.2 k).trans (h2.2 k).symm;rw [List.getElem?_eq_getElem (by rw [h1.1];exact hk),List.getElem?_eq_getElem (by rw [h2.1];exact hk)] at e ⊢;generalize r[k]'(by rw [h1.1];exact hk)=a at *;generalize q[k]'(by rw [h2.1];exact hk)=b at *;cases a<;>cases b<;>simp_all
  · rw [List.getElem?_eq_none (by rw [h1.1];exact hk),List.getElem?_eq_none (by rw [h2.1];exact hk)]
theorem I6 (l:List gP) (now:Int):vw l now ((List.replicate 10 false).set 0 true):=fun k hk=>by
  rcases setAt hk with q | q
  · subst q;exact .root
  · rw [List.getElem?_replicate] at q;split at q<;>simp at q
theorem EH {l:List gP} (h:Ar l) (now:Int):Lk l now (reach l now):=by
  unfold reach;rw [if_pos (kl.2 h)];obtain ⟨q1,q2,q3,q4⟩:=zb (now:=now) h 10 ((List.replicate 10 false).set 0 true) rfl (I6 l now);exact Ji h q1 q3 (q2 0 rfl) (q4 (by decide))
theorem pB {l:List gP} (h:Ar l) (now:Int):(reach l now).length=10:=(EH h now).1
theorem za {l:List gP} {now:Int}:∀ (m:List gP) (k:Nat) (r:List Bool),(foldI (visit l now) k r m).length=r.length
  | [],k,r=>rfl
  | o::m,k,r=>by unfold foldI;rw [za m,wL]
theorem LI {N:Nat} (hN:gT≤N) {l:List gP} (h:Ar l) {now:Int} {e:List Int} (he:∀ y,y ∈ e→0≤y∧y≤9) (hl:e.length≤10) {r:List Bool} (hr:r.length=10) :
    iter (fun (s67:(List Bool)×Int)=>(bif (decide (s67.2<(e.length:Int))) then ((idx e s67.2).bind fun y70=>(idx l y70).bind fun y83=>bif (!(jr y83 now)) then ((idx s67.1 y70).bind fun y104=>some (.inl (s67.1.set (y70:Int).toNat true,i64.wrap (s67.2+1)))) else (some (.inl (s67.1,i64.wrap (s67.2+1))))) else (some (.inr (s67.1,s67.2))):Option (((List Bool)×Int)⊕((List Bool)×Int)))) N (r,0)=some (e.foldl (wQ l now) r,(e.length:Int)):=by
  have hB:e.length<gT:=Nat.lt_of_le_of_lt hl (by decide)
  rw [show (r,(0:Int))=(fun (k:Nat) (t:List Bool)=>(t,(k:Int))) 0 r from rfl,
    j0 e (fun (k:Nat) (t:List Bool)=>(t,(k:Int))) (fun _ t y=>wQ l now t y) (fun t=>(t,(e.length:Int))) (fun _ t=>t.length=10) ?_ ?_ (Nat.lt_of_lt_of_le hB hN) hr,lk]
  · intro k t y hy hk ht;obtain ⟨y0,y9⟩:=he y (List.mem_of_getElem? hy);refine ⟨?_,by rw [Bx,ht]⟩;simp only [iF hk,PD,ik,hy,PB,(h.at y0 y9).1,va,iJ (Nat.lt_trans hk hB),i9 (l:=t) y0 (by omega)];unfold wQ;cases jr (nth l y) now<;>rfl
  · intro t _;simp only [iG,PC]
theorem uz {l:List gP} (h:Ar l) (i:Int):(∀ y,y ∈ lN l i→0≤y∧y≤9)∧(lN l i).length≤10:=by
  have:=h.len;refine ⟨fun y hy=>by have:=wT hy;omega,by have:=JY l i;omega⟩
theorem Gn {N:Nat} (hN:gT≤N) {l:List gP} (hb:iQ hY l<gT) (hw:wA l) (now:Int):tF N l now=some (reach l now):=by
  unfold tF reach;rw [rF hN hb hw,PB];cases ha:jX l
  · rfl
  have h:=kl.1 ha;have hB:=h.xh;simp only [PE,PC,if_true];rw [show mk Bool 10=some (List.replicate 10 false) from rfl];simp only [PB];rw [show idx (List.replicate 10 false) 0=some false from rfl];simp only [PB]
  have hin:∀ r:List Bool,r.length=10→iter (fun (s21:(List Bool)×Int)=>(bif (decide (s21.2<(l.length:Int))) then (((idx s21.1 s21.2).bind fun y26=>bif (!y26) then (some true) else ((idx l s21.2).bind fun y40=>(lS N y40 now).bind fun y58=>bif y58 then (some (decide (s21.2 > 0))) else (some false)):Option Bool).bind fun j24=>bif j24 then (some (.inl (s21.1,i64.wrap (s21.2+1)))) else ((rq N l s21.2).bind fun y63=>(iter (fun (s67:(List Bool)×Int)=>(bif (decide (s67.2<(y63.length:Int))) then ((idx y63 s67.2).bind fun y70=>(idx l y70).bind fun y83=>(lS N y83 now).bind fun y101=>bif (!y101) then ((idx s67.1 y70).bind fun y104=>some (.inl (s67.1.set (y70:Int).toNat true,i64.wrap (s67.2+1)))) else (some (.inl (s67.1,i64.wrap (s67.2+1))))) else (some (.inr (s67.1,s67.2))):Option (((List Bool)×Int)⊕((List Bool)×Int)))) N (s21.1,0)).bind fun o111=>some (.inl (o111.1,i64.wrap (s21.2+1))))) else (some (.inr (s21.1,s21.2))):Option (((List Bool)×Int)⊕((List Bool)×Int)))) N (r,0)=some (uN l now r,(l.length:Int)):=by
    intro r hr
    rw [show (r,(0:Int))=(fun (k:Nat) (t:List Bool)=>(t,(k:Int))) 0 r from rfl,
      j0 l (fun (k:Nat) (t:List Bool)=>(t,(k:Int))) (fun k t y=>visit l now k t y) (fun t=>(t,(l.length:Int))) (fun _ t=>t.length=10) ?_ ?_ (Nat.lt_of_lt_of_le hB hN) hr]
    · rfl
    · intro k t y hy hk ht
      have hk10:k<10:=by rw [← h.len];exact hk
      refine ⟨?_,by rw [wL,ht]⟩;simp only [iF hk,PD];rw [i9 (l:=t) (i:=(k:Int)) (by omega) (by omega)];simp only [ik,hy,PB,va,iJ (Nat.lt_trans hk hB)];rw [Gp hN hb hw h (i:=(k:Int)) (by omega) (by omega),PB,LI hN h (uz h _).1 (uz h _).2 ht];unfold visit;cases nth t (k:Int)<;>cases jr y now<;>cases decide ((k:Int) > 0)<;>rfl
    · intro t _;simp only [iG,PC]
  have hout:∀ (n:Nat) (j:Nat) (r:List Bool),r.length=10→foldI (fun _ t (_:Unit)=>uN l now t) j r (List.replicate n ())=rm l now n r:=by
    intro n
    induction n with
    | zero=>intro j r _;rfl
    | succ n ih=>intro j r hr;rw [List.replicate_succ];unfold foldI rm;exact ih _ _ (by
        have:=za (l:=l) (now:=now) l 0 r
        unfold uN;rw [this,hr])
  rw [show (((List.replicate 10 false).set (0:Int).toNat true,(0:Int)):List Bool×Int)=(fun (k:Nat) (t:List Bool)=>(t,(k:Int))) 0 ((List.replicate 10 false).set 0 true) from rfl,
    j0 (List.replicate 10 ()) (fun (k:Nat) (t:List Bool)=>(t,(k:Int))) (fun _ t _=>uN l now t) (fun t=>(t,(10:Int))) (fun _ t=>t.length=10) ?_ ?_ (M8 (k:=0) hN (by decide)) rfl,hout 10 0 _ rfl]
  · rfl
  · intro k t y hy hk ht
    have hk:k<10:=by simpa using hk
    refine ⟨?_,by have:=za (l:=l) (now:=now) l 0 t;unfold uN;rw [this,ht]⟩
    have h3:decide ((k:Int)<10)=true:=by simp;omega
    simp only [h3,PD];rw [hin t ht];simp only [PB,iJ (show k<gT from Nat.lt_trans hk (by decide))]
  · intro t _;rfl
def push (l:List gP) (now:Int) (s:List Bool×List Int) (y:Int):List Bool×List Int:=if !(nth s.1 y)&&!jr (nth l y) now then (s.1.set y.toNat true,s.2++[y]) else s
theorem Cq {r:List Bool} {y:Int} (h0:0≤y):nth r y=true ↔ r[y.toNat]?=some true:=by
  have:=Ae (r:=r) (k:=y.toNat)
  rwa [show ((y.toNat:Nat):Int)=y by omega] at this
theorem xV {l:List gP} {now i:Int} (hi:Reaches l now i):∀ (e:List Int) (s:List Bool×List Int),(∀ y,y ∈ e→y ∈ lN l i∧0≤y∧y≤9)→s.1.length=10→vw l now s.1 →
    let z:=e.foldl (push l now) s
    z.1.length=10∧vw l now z.1∧yW s.1 z.1∧z.2.length+tx z.1=s.2.length+tx s.1∧(∀ y,y ∈ e→jr (nth l y) now=false→z.1[y.toNat]?=some true)∧(∀ y,y ∈ s.2→y ∈ z.2) ∧
      (∀ y,y ∈ z.2→y ∈ s.2∨(0≤y∧z.1[y.toNat]?=some true))∧(∀ k:Nat,z.1[k]?=some true→s.1[k]?=some true∨(k:Int) ∈ z.2)
  | [],s,_,h1,h2=>⟨h1,h2,fun _ h=>h,rfl,fun _ h=>absurd h (by simp),fun _ h=>h,fun _ h=>.inl h,fun _ h=>.inl h⟩
  | y::e,s,he,h1,h2=>by
    obtain ⟨e1,e2,e3⟩:=he y (by simp)
    have hlt:y.toNat<s.1.length:=by omega
    simp only [List.foldl_cons]
    by_cases hc:(!(nth s.1 y)&&!jr (nth l y) now)=true
    · have hp:push l now s y=(s.1.set y.toNat true,s.2++[y]):=by unfold push;rw [if_pos hc]
      simp only [PG,Bool.not_eq_true'] at hc
      have hf:s.1[y.toNat]?=some false:=by
        have:¬ s.1[y.toNat]?=some true:=fun q=>by rw [(Cq e2).2 q] at hc;simp at hc
        rw [List.getElem?_eq_getElem hlt] at this ⊢;cases hb:s.1[y.toNat]<;>simp_all
      have hs:vw l now (s.1.set y.toNat true):=fun k hk=>by
        rcases setAt hk with q | q
        · have e:(k:Int)=y:=by omega
          rw [e];exact .step hi e1 hc.2
        · exact h2 k q
      rw [hp];obtain ⟨a1,a2,a3,a4,a5,a6,a7,a8⟩:=xV hi e (s.1.set y.toNat true,s.2++[y]) (fun x hx=>he x (by simp [hx])) (by simpa using h1) hs;have hy:(e.foldl (push l now) (s.1.set y.toNat true,s.2++[y])).1[y.toNat]?=some true:=a3 _ (List.getElem?_set_self hlt);refine ⟨a1,a2,fun k hk=>a3 k (GN k hk),?_,fun x hx hxx=>?_,fun x hx=>a6 x (by simp [hx]),fun x hx=>?_,fun k hk=>?_⟩
      · have:=GS hf;simp only [List.length_append,List.length_cons,List.length_nil] at a4;omega
      · rcases List.mem_cons.1 hx with rfl | hx
        · exact hy
        · exact a5 x hx hxx
      · rcases a7 x hx with q | q
        · rcases List.mem_append.1 q with q | q
          · exact .inl q
          · simp at q;subst q;exact .inr ⟨e2,hy⟩
        · exact .inr q
      · rcases a8 k hk with q | q
        · rcases setAt q with q | q
          · refine .inr (a6 (k:Int) ?_)
            have e:(k:Int)=y:=by omega
            simp [e]
          · exact .inl q
        · exact .inr q
    · have hp:push l now s y=s:=by unfold push;rw [if_neg hc]
      rw [hp];obtain ⟨a1,a2,a3,a4,a5,a6,a7,a8⟩:=xV hi e s (fun x hx=>he x (by simp [hx])) h1 h2;refine ⟨a1,a2,a3,a4,fun x hx hxx=>?_,a6,a7,a8⟩
      rcases List.mem_cons.1 hx with rfl | hx
      · refine a3 _ ((Cq e2).1 ?_);cases hn:nth s.1 x
        · exact absurd (show (!(nth s.1 x)&&!jr (nth l x) now)=true by simp [hn,hxx]) hc
        · rfl
      · exact a5 x hx hxx
theorem Cl (l:List gP) (now:Int):∀ (e:List Int) (s:List Bool×List Int),s.2.length≤(e.foldl (push l now) s).2.length
  | [],s=>Nat.le_refl _
  | y::e,s=>by
    rw [List.foldl_cons];refine Nat.le_trans ?_ (Cl l now e _);unfold push;split<;>simp
theorem KA {N:Nat} (hN:gT≤N) {l:List gP} (h:Ar l) {now:Int} {e:List Int} (he:∀ y,y ∈ e→0≤y∧y≤9) (hl:e.length≤10) {r:List Bool} (hr:r.length=10) {t:List Int} (ht:t.length≤100) :
    iter (fun (s45:(List Bool)×(List Int)×Int)=>(bif (decide (s45.2.2<(e.length:Int))) then ((idx e s45.2.2).bind fun y48=>((idx s45.1 y48).bind fun y63=>bif (!y63) then ((idx l y48).bind fun y77=>(mK N y77 now).bind fun y95=>some (!y95)) else (some false):Option Bool).bind fun j61=>bif j61 then ((idx s45.1 y48).bind fun y99=>(app s45.2.1 [y48]).bind fun y106=>some (.inl (s45.1.set (y48:Int).toNat true,y106,i64.wrap (s45.2.2+1)))) else (some (.inl (s45.1,s45.2.1,i64.wrap (s45.2.2+1))))) else (some (.inr (s45.1,s45.2.1,s45.2.2))):Option (((List Bool)×(List Int)×Int)⊕((List Bool)×(List Int)×Int)))) N (r,t,0) =
      some ((e.foldl (push l now) (r,t)).1,(e.foldl (push l now) (r,t)).2,(e.length:Int)):=by
  have hB:e.length<gT:=Nat.lt_of_le_of_lt hl (by decide)
  rw [show (r,t,(0:Int))=(fun (k:Nat) (s:List Bool×List Int)=>(s.1,s.2,(k:Int))) 0 (r,t) from rfl,
    j0 e (fun (k:Nat) (s:List Bool×List Int)=>(s.1,s.2,(k:Int))) (fun _ s y=>push l now s y) (fun s=>(s.1,s.2,(e.length:Int))) (fun k s=>s.1.length=10∧s.2.length≤100+k) ?_ ?_ (Nat.lt_of_lt_of_le hB hN) ⟨hr,ht⟩,lk]
  · intro k s y hy hk ⟨i1,i2⟩;obtain ⟨y0,y9⟩:=he y (List.mem_of_getElem? hy)
    refine ⟨?_,by
      unfold push;split
      · simp only [List.length_set,List.length_append,List.length_cons,List.length_nil];omega
      · omega⟩
    have hkB:100+k+1<gT:=by have:(16777216:Nat)=gT:=rfl;omega
    simp only [iF hk,PD,ik,hy,PB,(h.at y0 y9).1,xc,iJ (Nat.lt_trans hk hB),i9 (l:=s.1) y0 (by omega),kB i2 hkB,kI];unfold push;cases (!(nth s.1 y)&&!jr (nth l y) now)<;>rfl
  · intro s _;simp only [iG,PC]
theorem Gx {N:Nat} (hN:gT≤N) {l:List gP} (hb:iQ hY l<gT) (now:Int):tr N l now=some (reach l now):=by
  unfold tr;rw [u7 hN hb,PB];cases ha:jX l
  · unfold reach;rw [ha];rfl
  have h:=kl.1 ha;simp only [PE,PC];rw [show mk Bool 10=some (List.replicate 10 false) from rfl];simp only [PB];rw [show idx (List.replicate 10 false) 0=some false from rfl];simp only [PB]
  obtain ⟨z,hz,hz1,hz2,hz3,hz4⟩:=Em (body:=fun (s18:(List Bool)×(List Int))=>(bif (decide ((s18.2.length:Int) > 0)) then ((idx s18.2 0).bind fun y21=>(sub s18.2 1 (s18.2.length:Int)).bind fun y34=>(oL N l y21).bind fun y41=>(iter (fun (s45:(List Bool)×(List Int)×Int)=>(bif (decide (s45.2.2<(y41.length:Int))) then ((idx y41 s45.2.2).bind fun y48=>((idx s45.1 y48).bind fun y63=>bif (!y63) then ((idx l y48).bind fun y77=>(mK N y77 now).bind fun y95=>some (!y95)) else (some false):Option Bool).bind fun j61=>bif j61 then ((idx s45.1 y48).bind fun y99=>(app s45.2.1 [y48]).bind fun y106=>some (.inl (s45.1.set (y48:Int).toNat true,y106,i64.wrap (s45.2.2+1)))) else (some (.inl (s45.1,s45.2.1,i64.wrap (s45.2.2+1))))) else (some (.inr (s45.1,s45.2.1,s45.2.2))):Option (((List Bool)×(List Int)×Int)⊕((List Bool)×(List Int)×Int)))) N (s18.1,y34,0)).bind fun o111=>some (.inl (o111.1,o111.2.1))) else (some (.inr (s18.1,s18.2))):Option (((List Bool)×(List Int))⊕((List Bool)×(List Int)))))
    (fun s=>s.2.length+2 * tx s.1)
    (fun s=>s.1.length=10∧vw l now s.1∧s.1[0]?=some true∧s.2.length+tx s.1≤10∧(∀ y,y ∈ s.2→0≤y∧s.1[y.toNat]?=some true)∧∀ i:Nat,s.1[i]?=some true→(i:Int) ∈ s.2∨∀ y,y ∈ lN l (i:Int)→jr (nth l y) now=false→s.1[y.toNat]?=some true)
    (fun s=>s.1.length=10∧vw l now s.1∧s.1[0]?=some true∧yZ l now s.1 s.1)
    (fun s hI=>by
      obtain ⟨r,t⟩:=s;obtain ⟨i1,i2,i3,i4,i5,i6⟩:=hI;simp only at i1 i2 i3 i4 i5 i6
      cases t with
      | nil=>exact .inr ⟨(r,[]),rfl,i1,i2,i3,fun i hi=>by have:=i6 i hi;simpa using this⟩
      | cons x t =>
        left;obtain ⟨x0,xr⟩:=i5 x (by simp)
        have hx:Reaches l now x:=by have:=i2 x.toNat xr;rwa [show ((x.toNat:Nat):Int)=x by omega] at this
        obtain ⟨_,x9⟩:=hx.Ab h
        have hsub:sub (x::t) 1 ((x::t).length:Int)=some t:=by
          unfold sub;rw [if_pos ⟨by omega,by simp only [List.length_cons];omega,Int.le_refl _⟩];simp
        obtain ⟨e1,e2⟩:=uz h x
        have hpos:decide (((x::t).length:Int) > 0)=true:=by simp
        obtain ⟨a1,a2,a3,a4,a5,a6,a7,a8⟩:=xV hx (lN l x) (r,t) (fun y hy=>⟨hy,e1 y hy⟩) i1 i2;simp only [List.length_cons] at i4;refine ⟨(lN l x).foldl (push l now) (r,t),?_,⟨a1,a2,a3 0 i3,by simp only at a4;omega,fun y hy=>?_,fun i hi=>?_⟩,?_⟩
        · simp only [hpos,PD];rw [show idx (x::t) 0=some x from rfl];simp only [PB,hsub];rw [Cp hN h x0 x9,PB,KA hN h e1 e2 i1 (by omega)];rfl
        · rcases a7 y hy with q | q
          · obtain ⟨q1,q2⟩:=i5 y (by simp [show y ∈ t from q]);exact ⟨q1,a3 _ q2⟩
          · exact q
        · rcases a8 i hi with q | q
          · rcases i6 i q with q | q
            · rcases List.mem_cons.1 q with q | q
              · rw [q];exact .inr a5
              · exact .inl (a6 _ q)
            · exact .inr fun y hy hyx=>a3 _ (q y hy hyx)
          · exact .inl q
        · simp only [List.length_cons] at a4 ⊢
          have hle:tx ((lN l x).foldl (push l now) (r,t)).1≤tx r:=by
            have:t.length≤((lN l x).foldl (push l now) (r,t)).2.length:=Cl l now (lN l x) (r,t);omega
          omega)
    N ((List.replicate 10 false).set 0 true,[0]) ⟨rfl,I6 l now,rfl,by decide,fun y hy=>by simp at hy;subst hy;exact ⟨by decide,rfl⟩,fun i hi=>by
      rcases setAt hi with q | q
      · subst q;exact .inl (by simp)
      · rw [List.getElem?_replicate] at q;split at q<;>simp at q⟩ (by have:16777216≤N:=hN;simp only [show tx ((List.replicate 10 false).set 0 true)=9 from rfl,List.length_cons,List.length_nil];omega)
  rw [show ((List.replicate 10 false).set (0:Int).toNat true)=(List.replicate 10 false).set 0 true from rfl,hz,PB];exact congrArg some (Mz (Ji h hz1 hz2 hz3 hz4) (EH h now))
theorem mN {h:g7} (q:kp h=true):Ar h.ag:=by
  unfold kp at q;simp only [PG] at q;exact kl.1 q.1
def threads (p:bh) (now:Int):List Int:=if jk p then mF (fun k b=>b&&((nth p.py.ag (k:Int)).Pf==4)) (fun k _=>(k:Int)) 0 (reach p.py.ag now) else []
theorem jQ {p:bh} (h:jk p=true):Ar p.py.ag:=by
  unfold jk kp at h;simp only [PG] at h;exact kl.1 h.2.2.2.1.1
theorem mD {p:bh} {now k:Int} (h:k ∈ threads p now):jk p=true∧0≤k∧k≤9:=by
  unfold threads at h;split at h
  · rename_i hp;obtain ⟨j,b,h1,_,h3⟩:=wN.1 h;have:=je h1;rw [pB (jQ hp)] at this;have h3:k=((0+j:Nat):Int):=h3;exact ⟨hp,by omega,by omega⟩
  · simp at h
theorem Aa {N:Nat} (hN:gT≤N) {l:List gP} (h:Ar l) {now:Int} {body:List Int×Int→Option ((List Int×Int)⊕(List Int×Int))}
    (hs:∀ (k:Nat) (t:List Int) (b:Bool),(reach l now)[k]?=some b→k<10→t.length≤k→body (t,(k:Int))=some (.inl (if b&&((nth l (k:Int)).Pf==4) then t++[(k:Int)] else t,((k+1:Nat):Int))))
    (he:∀ t,body (t,10)=some (.inr (t,10))):iter body N ([],0)=some (mF (fun k b=>b&&((nth l (k:Int)).Pf==4)) (fun k _=>(k:Int)) 0 (reach l now),10):=by
  have hl:=pB h now
  have e:((reach l now).length:Int)=10:=by omega
  rw [n4 (reach l now) (fun k b=>b&&((nth l (k:Int)).Pf==4)) (fun k _=>(k:Int)) (by rw [hl];decide) hN,e]
  · intro k t b hb hk ht;exact hs k t b hb (by omega) ht
  · intro t;rw [e];exact he t
theorem y6 {N:Nat} (hN:gT≤N) {p:bh} (hb:ic p<gT) (now:Int):oJ N p now=some (threads p now):=by
  unfold oJ threads;rw [ti hN hb,PB];cases hp:jk p
  · rfl
  have h:=jQ hp;have hl:=pB h now;simp only [PE,PC,Gx hN (jY hb).2.2.2.1,PB,if_true];rw [Aa hN h]
  · rfl
  · intro k t b hy hk ht
    have hd:decide ((k:Int)<((reach p.py.ag now).length:Int))=true:=by simp;omega
    simp only [hd,PD];rw [(h.at (i:=(k:Int)) (by omega) (by omega)).1];simp only [ik,hy,PB,kI,iJ (show k<gT from Nat.lt_trans hk (by decide)),kB ht (show k+1<gT from Nat.lt_trans (Nat.succ_lt_succ hk) (by decide))];cases (b&&((nth p.py.ag (k:Int)).Pf==4))<;>rfl
  · intro t;simp only [hl];rfl
theorem yM {N:Nat} (hN:gT≤N) {p:bh} (hb:ic p<gT) (hw:wP p) (now:Int):oP N p now=some (threads p now):=by
  unfold oP threads;rw [te hN hb hw,PB];cases hp:jk p
  · rfl
  have h:=jQ hp;have hl:=pB h now;simp only [PE,PC,Gn hN (jY hb).2.2.2.1 hw,PB,if_true];rw [Aa hN h]
  · rfl
  · intro k t b hy hk ht
    have hd:decide ((k:Int)<((reach p.py.ag now).length:Int))=true:=by simp;omega
    simp only [hd,PD];rw [(h.at (i:=(k:Int)) (by omega) (by omega)).1];simp only [ik,hy,PB,kI,iJ (show k<gT from Nat.lt_trans hk (by decide)),kB ht (show k+1<gT from Nat.lt_trans (Nat.succ_lt_succ hk) (by decide))];cases (b&&((nth p.py.ag (k:Int)).Pf==4))<;>rfl
  · intro t;simp only [hl];rfl
theorem qF (p:bh) (now:Int):(threads p now).length<gT:=by
  unfold threads;split
  · rename_i hp;refine Nat.lt_of_le_of_lt (wY _ _ _ _) ?_;rw [pB (jQ hp)];decide
  · decide
def mu (p:bh) (now:Int) (th:Int):Bool:=(threads p now).contains th&&((nth p.py.ag th).Pq==0)
theorem B4 {N:Nat} (hN:gT≤N) {p:bh} (hb:ic p<gT) (now th:Int):qp N p now th=some (mu p now th):=by
  unfold qp mu;simp only [y6 hN hb,PB,tP hN (qF p now)];cases hc:(threads p now).contains th
  · rfl
  · obtain ⟨h1,h2,h3⟩:=mD (List.contains_iff_mem.1 hc);simp only [PD,((jQ h1).at h2 h3).1,PB,PF]
theorem Ci {N:Nat} (hN:gT≤N) {p:bh} (hb:ic p<gT) (hw:wP p) (now th:Int):qv N p now th=some (mu p now th):=by
  unfold qv mu;simp only [yM hN hb hw,PB,xy hN (qF p now)];cases hc:(threads p now).contains th
  · rfl
  · obtain ⟨h1,h2,h3⟩:=mD (List.contains_iff_mem.1 hc);simp only [PD,((jQ h1).at h2 h3).1,PB,PF]
end Go.Kx
namespace Go.Kx
open Go
open Go.IntKind (i64)
set_option linter.unusedVariables false
set_option linter.unusedSimpArgs false
set_option maxRecDepth 10000
theorem zB {α:Type} {f:α→Nat} {c:Nat}:∀ {l:List α},(∀ y,y ∈ l→f y≤c)→gW f l≤c * l.length
  | [],_=>Nat.zero_le _
  | y::l,h=>by
    have h1:=h y (by simp);have h2:=zB (l:=l) fun z hz=>h z (by simp [hz]);simp only [gW,List.length_cons,Nat.mul_add];omega
theorem Ee {α:Type} {f:α→Nat} {y:α}:∀ {l:List α} {k:Nat},gW f (l.set k y)≤gW f l+f y
  | [],k=>by simp [gW]
  | z::l,0=>by simp only [List.set_cons_zero,gW];omega
  | z::l,k+1=>by
    have:=Ee (f:=f) (y:=y) (l:=l) (k:=k);simp only [List.set_cons_succ,gW];omega
theorem xx {α:Type} {f:α→Nat} {y:α} {l:List α} {k:Nat}:iQ f (l.set k y)≤iQ f l+f y:=by
  have:=Ee (f:=f) (y:=y) (l:=l) (k:=k);unfold iQ;simp only [List.length_set];omega
theorem yo {o:gP} (h:kg o=true):hY o≤12:=by
  have hl:=(uR h).1;unfold kg at h;unfold hY;cases hk:o.Pf==0
  · simp only [hk,PC,PG] at h;obtain ⟨_,_,_,_,_,hp,hl2,_⟩:=h;unfold tu at hl2;simp only [PG,decide_eq_true_eq,beq_iff_eq] at hl2;obtain ⟨_,_,_,_,hd,hq⟩:=hl2;rw [iW] at hp
    have:o.Po.length≤8:=by
      cases h2:o.Pf==2
      · rw [h2] at hd;simp only [PC] at hd;omega
      · rw [h2] at hd;simp only [PD] at hd;omega
    have:o.Pk.length≤2:=by
      cases h3:o.Pf==3
      · rw [h3] at hq;simp only [PC] at hq;omega
      · rw [h3] at hq;simp only [PD] at hq;omega
    omega
  · simp only [hk,PD,PG,decide_eq_true_eq] at h;rw [h.2.2];simp [blank]
theorem Ar.sz {l:List gP} (h:Ar l):iQ hY l≤130:=by
  have h1:=zB (f:=hY) (c:=12) fun y hy=>yo (h.ok y hy);have h2:=h.len;unfold iQ;rw [h2] at h1 ⊢;omega
theorem kD {l:List gP} {k:Nat} {o:gP} (h:wA l) (ho:nC o):wA (l.set k o):=fun y hy=>by
  rcases List.mem_or_eq_of_mem_set hy with q | q
  · exact h y q
  · rw [q];exact ho
def kH (o:gP) (g:Int):gP:=gP.mk g o.Pf o.box o.Pu o.iz o.gE o.Pq o.iy o.im o.Ps o.gZ o.Po o.Pk
def putAt (l:List gP) (o:gP) (k:Nat) (x:gP):List gP×Int:=if jX (l.set k (kH o (i64.wrap (x.Pw+1))))&&(o.Pf != 0) then (l.set k (kH o (i64.wrap (x.Pw+1))),(k:Int)) else (l, -1)
def vL (l:List gP) (o:gP):Nat→List gP→List gP×Int
  | _,[]=>(l, -1)
  | k,x::m=>if x.Pf != 0 || decide (x.Pw ≥ 999) then vL l o (k+1) m else putAt l o k x
def kT (l:List gP) (o:gP):List gP×Int:=if jX l then vL l o 1 (l.drop 1) else (l, -1)
theorem Be {l:List gP} {o:gP} (h:(o.Pf != 0)=false):∀ (m:List gP) (k:Nat),vL l o k m=(l, -1)
  | [],k=>rfl
  | x::m,k=>by
    unfold vL putAt;rw [h,Be h m];simp
theorem D9 {ρ:Type} {body:Int→Option (Int⊕ρ)} (l:List gP) (p:gP→Bool) (g:Nat→gP→ρ) (r:ρ) {N:Nat} (hN:l.length+1<N) (hl:1≤l.length)
    (hs:∀ (k:Nat) (x:gP),l[k]?=some x→1≤k→k<l.length→body (k:Int)=some (if p x then .inl ((k+1:Nat):Int) else .inr (g k x))) (he:body (l.length:Int)=some (.inr r)) :
    iter body N 1=some (lg (fun k (_:Unit) x=>if p x then .inl () else .inr (g (k+1) x)) (fun _=>r) 0 () (l.drop 1)):=by
  have hd:(l.drop 1).length+1=l.length:=by simp;omega
  rw [show (1:Int)=(fun (k:Nat) (_:Unit)=>((k+1:Nat):Int)) 0 () from rfl,
    lK (l.drop 1) (fun (k:Nat) (_:Unit)=>((k+1:Nat):Int)) (fun k _ x=>if p x then .inl () else .inr (g (k+1) x)) (fun _=>r) (fun _ _=>True) ?_ ?_ (by omega) trivial]
  · intro k _ x hx hk _
    have hx:l[k+1]?=some x:=by rw [← hx,List.getElem?_drop,Nat.add_comm]
    refine ⟨?_,fun _ _=>trivial⟩
    show body ((k+1:Nat):Int)=_
    rw [hs (k+1) x hx (by omega) (by omega)];cases p x<;>rfl
  · intro _ _;simp only [hd];exact he
theorem BA {ρ:Type} (l:List gP) (o:gP) (r:ρ) (c:ρ→Option (List gP×Int)) (g:Nat→gP→ρ) (hr:c r=some (l, -1)) (hg:∀ k x,c (g k x)=some (putAt l o k x)):∀ (m:List gP) (k:Nat),
    c (lg (fun k (_:Unit) x=>if x.Pf != 0 || decide (x.Pw ≥ 999) then .inl () else .inr (g (k+1) x)) (fun _=>r) k () m)=some (vL l o (k+1) m)
  | [],k=>hr
  | x::m,k=>by
    unfold lg vL;cases h:(x.Pf != 0 || decide (x.Pw ≥ 999))
    · simp only [Bool.false_eq_true,if_false];exact hg _ _
    · simp only [if_true];exact BA l o r c g hr hg m (k+1)
theorem B5 (o:gP) (g:Int):hY (kH o g)=hY o:=rfl
theorem At {o:gP} {g:Int} (h:nC o):nC (kH o g):=h
theorem KW {l:List gP} (h:Ar l) {o:gP} (ho:hY o≤100000) (k:Nat):iQ hY (l.set k o)<gT:=by
  have h1:=h.sz;have h2:=xx (f:=hY) (y:=o) (l:=l) (k:=k);have:(16777216:Nat)=gT:=rfl;omega
theorem AH {N:Nat} (hN:gT+1≤N) {l:List gP} (hb:iQ hY l<gT) {o:gP} (ho:hY o≤100000):oR N l o=some (kT l o):=by
  have hN':gT≤N:=Nat.le_of_succ_le hN;have hB:(16777216:Nat)=gT:=rfl
  have hoB:hY o<gT:=by omega
  unfold oR kT;simp only [uL hN' hb,u7 hN' hb,PB,j1];cases ha:jX l
  · rfl
  have h:=kl.1 ha;have hl:=h.len;simp only [PE,Bool.false_or,if_true];cases hk:(o.Pf != 0)
  · rw [Be hk]
    have:(o.Pf==0)=true:=by simpa [bne] using hk
    rw [this];rfl
  · have hk0:(o.Pf==0)=false:=by simpa [bne] using hk
    simp only [hk0,PC];obtain ⟨M,rfl⟩:∃ M,N=M+1:=⟨N - 1,by omega⟩;have hd:∀ k:Nat,k<l.length→decide ((k:Int)<(l.length:Int))=true:=fun k hk=>iF hk;have h0:decide ((0:Int)<(l.length:Int))=true:=hd 0 (by omega);unfold iter;simp only [h0,PD,(h.at (i:=0) (by omega) (by omega)).1,PB,beq_self_eq_true,Bool.true_or,show i64.wrap (0+1)=1 from by decide];rw [D9 l (fun x=>x.Pf != 0 || decide (x.Pw ≥ 999)) (fun k x=>if jX (l.set k (kH o (i64.wrap (x.Pw+1)))) then Sum.inr (l.set k (kH o (i64.wrap (x.Pw+1))),(k:Int)) else Sum.inr (l, -1)) (Sum.inl (l.length:Int)) (by omega) (by omega)]
    · simp only [PB]
      exact BA l o (Sum.inl (l.length:Int)) (fun o73=>Sum.elim (fun o73=>some (l, -1)) (fun r76=>some r76) o73) (fun k x=>if jX (l.set k (kH o (i64.wrap (x.Pw+1)))) then Sum.inr (l.set k (kH o (i64.wrap (x.Pw+1))),(k:Int)) else Sum.inr (l, -1)) rfl (fun k x=>by
        unfold putAt;rw [hk]
        cases jX (l.set k (kH o (i64.wrap (x.Pw+1))))<;>rfl) _ 0
    · intro k x hx hk1 hkl
      have hne:((k:Int)==0)=false:=by simp;omega
      have e1:idx (l.set k o) (k:Int)=some o:=Gt hkl;simp only [hd k hkl,PD,ik,hx,PB,hne,PC,j1,iJ (show k<gT by omega),uL hN' hb,Cr hoB,Int.toNat_natCast,List.getElem?_set_self hkl,List.set_set];rw [show gP.mk (i64.wrap (x.Pw+1)) o.Pf o.box o.Pu o.iz o.gE o.Pq o.iy o.im o.Ps o.gZ o.Po o.Pk=kH o (i64.wrap (x.Pw+1)) from rfl,u7 hN' (KW h (by rw [B5];exact ho) k)];cases (x.Pf != 0 || decide (x.Pw ≥ 999))
      · cases jX (l.set k (kH o (i64.wrap (x.Pw+1))))<;>rfl
      · rfl
    · simp only [iG,PC]
theorem Bn {N:Nat} (hN:gT≤N) {l:List gP} (hb:iQ hY l<gT) (hw:wA l) {o:gP} (ho:hY o≤100000) (hwo:nC o):pd N l o=some (kT l o):=by
  have hB:(16777216:Nat)=gT:=rfl
  have hoB:hY o<gT:=by omega
  unfold pd kT;simp only [Ao hN hb,rF hN hb hw,PB];cases ha:jX l
  · rfl
  have h:=kl.1 ha;have hl:=h.len;simp only [PE,PC,if_true];rw [D9 l (fun x=>x.Pf != 0 || decide (x.Pw ≥ 999)) (fun k x=>Sum.inr (putAt l o k x)) (Sum.inl (l.length:Int)) (by omega) (by omega)]
  · simp only [PB];exact BA l o (Sum.inl (l.length:Int)) (fun o84=>Sum.elim (fun o84=>some (l, -1)) (fun r87=>some r87) o84) (fun k x=>Sum.inr (putAt l o k x)) rfl (fun k x=>rfl) _ 0
  · intro k x hx hk1 hkl;simp only [iF hkl,PD,ik,hx,PB,j1,iJ (show k<gT by omega),GB hoB,Int.toNat_natCast];rw [show gP.mk (i64.wrap (x.Pw+1)) o.Pf o.box o.Pu o.iz o.gE o.Pq o.iy o.im o.Ps o.gZ o.Po o.Pk=kH o (i64.wrap (x.Pw+1)) from rfl,rF hN (KW h (by rw [B5];exact ho) k) (kD hw (At hwo))];simp only [PB,j1];unfold putAt
    have hk:(o.Pf==0)=!(o.Pf != 0):=by simp [bne]
    rw [hk];cases (x.Pf != 0 || decide (x.Pw ≥ 999))
    · cases jX (l.set k (kH o (i64.wrap (x.Pw+1))))<;>cases (o.Pf != 0)<;>rfl
    · rfl
  · simp only [iG,PC]
def marked (o:gP) (m:Bool):gP:=gP.mk o.Pw o.Pf o.box o.Pu o.iz o.gE o.Pq o.iy o.im m o.gZ o.Po o.Pk
def oC (h:g7) (i:Int):g7:=if kp h&&(ig i 0 9&&((nth h.ag i).Pf != 0)) then g7.mk (h.ag.set i.toNat (marked (nth h.ag i) ((h.gc.Ph==0) || decide (i ≥ h.gc.Pr)))) h.gc else h
theorem DB {N:Nat} (hN:gT≤N) {h:g7} (h1:iQ hY h.ag<gT) (h2:h.gc.gQ.length<gT) (i:Int):sa N h i=some (oC h i):=by
  unfold sa oC;simp only [vD hN h1 h2,yl hN h1 h2,tg,PB];cases q:kp h
  · rfl
  cases hi:ig i 0 9
  · rfl
  have hr:=iW.1 hi;simp only [PD,((mN q).at hr.1 hr.2).1,PB,PF];cases (nth h.ag i).Pf != 0
  · rfl
  · cases h.gc.Ph==0<;>rfl
theorem Er {N:Nat} (hN:gT≤N) {h:g7} (h1:iQ hY h.ag<gT) (h2:h.gc.gQ.length<gT) (hw:wA h.ag) (i:Int):rT N h i=some (oC h i):=by
  unfold rT oC;simp only [wS hN h1 h2,yq hN h1 h2 hw,qV,PB,bne];cases q:kp h
  · rfl
  cases hi:ig i 0 9
  · rfl
  have hr:=iW.1 hi;simp only [PE,PC,((mN q).at hr.1 hr.2).1,PB,PF];cases (nth h.ag i).Pf==0
  · cases h.gc.Ph==0<;>rfl
  · rfl
end Go.Kx
namespace Go.Kx
open Go
open Go.IntKind (i64)
set_option linter.unusedVariables false
set_option linter.unusedSimpArgs false
set_option maxRecDepth 10000
def tf:List gP:=(List.replicate 10 (blank 0)).set 0 (gP.mk 0 1 (-1) 0 1000000 0 0 0 0 false [-1, -1] [] [])
def vR:gP:=gP.mk 0 4 0 0 1000000 0 0 0 0 false [-1, -1] [] []
def Bv:List gP:=tf.set 1 (kH vR 1)
def Iu:List gP:=tf.set 1 (marked (kH vR 1) true)
theorem Ij (N:Nat):tY N=some tf:=rfl
theorem G8 (N:Nat):tZ N=some tf:=rfl
theorem yA:kT tf vR=(Bv,1):=by decide
theorem HG:wA tf:=by
  intro o ho
  have:∀ o ∈ tf, -9223372036854775808≤o.Pq:=by decide
  exact this o ho
theorem KU:wA Bv:=by
  intro o ho
  have:∀ o ∈ Bv, -9223372036854775808≤o.Pq:=by decide
  exact this o ho
def uD:g7:=g7.mk Iu (i7.mk 0 0 0 [0])
theorem AO:oC (g7.mk Bv (i7.mk 0 0 0 [0])) 1=uD:=by decide
def nV (a:hO):List g6:=(List.replicate 5 rN).set 0 (g6.mk true (-1) a)
theorem KF {a:hO} (h:iN a=true):iS ⟨0,0,0⟩ a=a:=by
  unfold iN xA at h;simp only [PG,iW] at h;unfold iS;simp only [Int.zero_add];rw [jg (by omega) (by omega),jg (by omega) (by omega),jg (by omega) (by omega)]
theorem Hz (a:hO):jG (nV a)=iN a:=by
  have h1:∀ i:Nat,allI (nM (nV a)) (i+1) (List.replicate 4 rN)=true:=fun i=>by
    rw [l7];intro j r hr;rw [List.getElem?_replicate] at hr;split at hr
    · cases hr;rfl
    · cases hr
  have h2:allI (nM (nV a)) 0 (nV a)=iN a:=by
    show (((iN a&&true)&&allI (nM (nV a)) 1 (List.replicate 4 rN)):Bool)=iN a
    rw [h1 0,Bool.and_true,Bool.and_true]
  unfold jG;rw [h2]
  show (true&&(true&&(true&&(iN a&&iN (iS ⟨0,0,0⟩ a)))))=iN a
  cases h:iN a
  · rfl
  · rw [KF h,h];rfl
theorem IL {N:Nat} (hN:gT≤N) (a:hO):sL N a=some (if iN a then (nV a,true) else ([],false)):=by
  unfold sL;rw [show mk g6 5=some (List.replicate 5 rN) from rfl];simp only [PB];rw [show idx (List.replicate 5 rN) 0=some rN from rfl];simp only [PB];rw [show (List.replicate 5 rN).set (0:Int).toNat (g6.mk true (-1) a)=nV a from rfl,qQ hN,Hz];cases iN a<;>rfl
theorem JL (N:Nat) (a:hO):sP N a=some (if iN a then (nV a,true) else ([],false)):=by
  unfold sP;rw [qt,PB];cases iN a<;>rfl
def NM:bh:=bh.mk (iY.mk []) [] [] (g7.mk [] (i7.mk 0 0 0 [])) [] 0 0 (hO.mk 0 0 0) 0 0
def zA (b:iO):bh:=bh.mk b.Pe b.own (nV b.j6) uD [] 0 0 (hO.mk 0 0 0) 0 0
def Eu (b:iO):Bool:=iN b.j6&&(j3 b.Pe&&lP b.own)
def qo (b:iO):bh×Bool:=if Eu b then (zA b,true) else (NM,false)
theorem IM:nC vR:=by show (-9223372036854775808:Int)≤0;decide
theorem IU {N:Nat} (hN:gT+1≤N) {b:iO} (hb:jm b<gT):sH N b=some (qo b):=by
  have hN':gT≤N:=Nat.le_of_succ_le hN
  have h1:b.Pe.Pd.length<gT∧b.own.length<gT:=by unfold jm jU at hb;omega
  unfold sH qo Eu;simp only [IL hN',uW hN' h1.1,zs hN' h1.2,PB,j1];cases iN b.j6
  · rfl
  cases j3 b.Pe
  · rfl
  cases lP b.own
  · rfl
  simp only [if_true,PE,Bool.or_self,PC,Bool.and_self,Ij,PB];rw [show gP.mk 0 4 0 0 1000000 0 0 0 0 false ([-1, -1]:List Int) [] []=vR from rfl,AH hN (by decide) (by decide),yA];simp only [PB,zP h1.1,r7 h1.2];rw [show wV N=some (i7.mk 0 0 0 [0]) from rfl];simp only [PB];rw [DB hN' (by decide) (by decide),AO];rfl
theorem Bk (b:iO):ic (zA b)=jm b+20:=by
  show jU b.Pe+(b.own.length+((nV b.j6).length+((iQ hY uD.ag+((uD.gc.gQ.length+0)+0))+(([]:List iB).length+0))))=jU b.Pe+(b.own.length+0)+20
  have h1:iQ hY uD.ag=14:=by decide
  have h2:uD.gc.gQ.length=1:=by decide
  have h3:(nV b.j6).length=5:=rfl;have h4:([]:List iB).length=0:=rfl;simp only [h1,h2,h3,h4];omega
theorem Jr {N:Nat} (hN:gT≤N) {b:iO} (hb:jm b≤1048576):sU N b=some (qo b):=by
  have h1:b.Pe.Pd.length<gT∧b.own.length<gT:=by have:(16777216:Nat)=gT:=rfl;unfold jm jU at hb;omega
  unfold sU qo Eu;simp only [JL,uX hN h1.1,zG hN h1.2,PB,j1];cases iN b.j6
  · cases j3 b.Pe<;>cases lP b.own<;>rfl
  cases j3 b.Pe
  · rfl
  cases lP b.own
  · rfl
  simp only [if_true,PE,Bool.or_self,PC,Bool.and_self,G8,PB];rw [show gP.mk 0 4 0 0 1000000 0 0 0 0 false ([-1, -1]:List Int) [] []=vR from rfl,Bn hN (by decide) HG (by decide) IM,yA];simp only [PB];rw [show w9 N=some (i7.mk 0 0 0 [0]) from rfl];simp only [PB];rw [Er hN (by decide) (by decide) KU,AO];simp only [PB];rw [show bh.mk b.Pe b.own (nV b.j6) uD [] 0 0 (hO.mk 0 0 0) 0 0=zA b from rfl,rL hN (by rw [Bk];have:(16777216:Nat)=gT:=rfl;omega)];rfl
end Go.Kx
namespace Go.Kx
open Go
open Go.IntKind (i64)
set_option linter.unusedVariables false
set_option linter.unusedSimpArgs false
set_option maxRecDepth 10000
def tm (b:List iO):List bh:=b.map fun x=>(qo x).1
def nJ (b:List iO):hJ:=if m9 b then ⟨0,tm b⟩ else ⟨0,[]⟩
theorem Gz {N:Nat} (hN:gT≤N) {b:List iO} (hl:b.length<gT) {F:iO→Option (bh×Bool)} (hF:∀ y,y ∈ b→F y=some (qo y)) :
    iter (fun (s10:Int×(List bh))=>(bif (decide (s10.1<(b.length:Int))) then ((idx b s10.1).bind fun y13=>(F y13).bind fun y28=>(app s10.2 [y28.1]).bind fun y45=>some (.inl (i64.wrap (s10.1+1),y45))) else (some (.inr (s10.1,s10.2))):Option ((Int×(List bh))⊕(Int×(List bh))))) N (0,[])=some ((b.length:Int),tm b):=by
  have e:∀ (l:List iO) (k:Nat) (acc:List bh),foldI (fun _ (acc:List bh) y=>acc++[(qo y).1]) k acc l=acc++tm l:=by
    intro l
    induction l with
    | nil=>intro k acc;simp [foldI,tm]
    | cons y l ih=>intro k acc;unfold foldI;rw [ih];simp [tm]
  rw [show ((0:Int),([]:List bh))=(fun (k:Nat) (t:List bh)=>((k:Int),t)) 0 [] from rfl,
    j0 b (fun (k:Nat) (t:List bh)=>((k:Int),t)) (fun _ acc y=>acc++[(qo y).1]) (fun t=>((b.length:Int),t)) (fun k t=>t.length≤k) ?_ ?_ (Nat.lt_of_lt_of_le hl hN) (by simp),e]
  · simp
  · intro k t y hy hk ht;refine ⟨?_,by simp;omega⟩;simp only [iF hk,PD,ik,hy,PB,hF y (List.mem_of_getElem? hy),iJ (Nat.lt_trans hk hl),kB ht (Nat.lt_of_le_of_lt hk hl)]
  · intro t _;simp only [iG,PC]
theorem HE {N:Nat} (hN:gT+1≤N) {b:List iO} (hb:iQ jm b<gT):rz N b=some (nJ b):=by
  have hN':gT≤N:=Nat.le_of_succ_le hN;unfold rz nJ;rw [DQ hN' hb,PB];cases m9 b
  · rfl
  · simp only [PE,PC,if_true];rw [Gz hN' (jj hb) fun y hy=>IU hN (jh hb hy)];rfl
theorem Hm {N:Nat} (hN:gT≤N) {b:List iO} (hb:iQ jm b≤1048576):rP N b=some (nJ b):=by
  have hb':iQ jm b<gT:=small hb;unfold rP nJ;rw [Eh hN hb',PB];cases m9 b
  · rfl
  · simp only [PE,PC,if_true];rw [Gz hN (jj hb') fun y hy=>Jr hN (Nat.le_of_lt_succ (jh (Nat.lt_succ_of_le hb) hy))];rfl
end Go.Kx
namespace Go.Kx
open Go
open Go.IntKind (i64)
set_option linter.unusedVariables false
set_option linter.unusedSimpArgs false
set_option maxRecDepth 10000
def NA (a:hO):Prop:=i64.wrap a.gE=a.gE∧i64.wrap a.gX=a.gX∧i64.wrap a.g8=a.g8
theorem wrap_wrap (n:Int):i64.wrap (i64.wrap n)=i64.wrap n:=by
  have:-9223372036854775808≤i64.wrap n∧i64.wrap n≤9223372036854775807:=by
    simp only [IntKind.wrap,IntKind.signed,IntKind.bits];simp;omega
  exact jg this.1 this.2
theorem NA.sum (a b:hO):NA (iS a b):=⟨wrap_wrap _,wrap_wrap _,wrap_wrap _⟩
theorem NA.zero:NA ⟨0,0,0⟩:=⟨by decide,by decide,by decide⟩
theorem Kl {a:hO} (h:NA a):iS a ⟨0,0,0⟩=a:=by
  obtain ⟨h1,h2,h3⟩:=h;unfold iS;simp only [Int.add_zero,h1,h2,h3]
def mX (t:List g6):hO:=if jG t then jq ⟨0,0,0⟩ t else ⟨0,0,0⟩
theorem Iq {N:Nat} (hN:gT≤N) {t:List g6} (hB:t.length<gT):sF N t=some (mX t):=by
  unfold sF mX;rw [wk hN,PB,BW hN hB];cases jG t<;>rfl
theorem DP:∀ (t:List g6) (s:hO),NA s→(∀ r,r ∈ t→r.Px=false→r.iH=⟨0,0,0⟩)→t.foldl (fun s r=>iS s r.iH) s=jq s t
  | [],s,_,_=>rfl
  | r::t,s,hs,h=>by
    unfold jq;simp only [List.foldl_cons];cases hl:r.Px
    · rw [h r (by simp) hl,Kl hs];exact DP t s hs fun x hx=>h x (by simp [hx])
    · exact DP t _ (NA.sum _ _) fun x hx=>h x (by simp [hx])
structure Tr (t:List g6):Prop where
  len:t.length=5
  HN:(nth t 0).Px=true
  OB:(nth t 0).Pv=-1
  dead:∀ r,r ∈ t→r.Px=false→r=rN
  iH:∀ r,r ∈ t→iN r.iH=true
  lead:∀ (k:Nat) (r:g6),t[k]?=some r→r.Px=true→leads t 5 (k:Int)=true
  sum:iN (jq ⟨0,0,0⟩ t)=true
theorem Kq:iN rN.iH=true:=by decide
theorem rW {t:List g6}:jG t=true ↔ Tr t:=by
  unfold jG;simp only [PG,Bool.not_eq_true',bne_eq_false_iff_eq,l7,Nat.zero_add];constructor
  · rintro ⟨h1,h2,h3,h4,h5⟩;have hm:∀ r,r ∈ t→∃ k:Nat,t[k]?=some r:=fun o ho=>List.getElem?_of_mem ho;refine ⟨by omega,h2,h3,fun r hr hl=>?_,fun r hr=>?_,fun k r hk hl=>?_,h5⟩
    · obtain ⟨k,hk⟩:=hm r hr;have:=h4 k r hk;unfold nM at this;simpa [hl] using this
    · obtain ⟨k,hk⟩:=hm r hr;have:=h4 k r hk;unfold nM at this;split at this
      · simp only [PG] at this;exact this.1
      · simp only [decide_eq_true_eq] at this;rw [this];exact Kq
    · have:=h4 k r hk;unfold nM at this;rw [if_pos hl] at this;simp only [PG] at this;exact this.2
  · intro h;refine ⟨by have:=h.len;omega,h.HN,h.OB,fun k r hr=>?_,h.sum⟩;unfold nM;have hm:=List.mem_of_getElem? hr;cases hl:r.Px
    · simp [h.dead r hm hl]
    · simp [h.iH r hm,h.lead k r hr hl]
theorem Ck {N:Nat} (hN:gT≤N) {t:List g6} (hB:t.length<gT):qA N t=some (mX t):=by
  unfold qA mX;rw [qQ hN,PB];cases h:jG t
  · rfl
  have ht:=rW.1 h;simp only [PE,PC,if_true]
  rw [show ((0:Int),(0:Int),(0:Int),(0:Int))=(fun (k:Nat) (s:hO)=>((k:Int),s.gE,s.gX,s.g8)) 0 ⟨0,0,0⟩ from rfl,
    j0 t (fun (k:Nat) (s:hO)=>((k:Int),s.gE,s.gX,s.g8)) (fun _ s r=>iS s r.iH) (fun s=>((t.length:Int),s.gE,s.gX,s.g8)) (fun _ _=>True) ?_ ?_ (Nat.lt_of_lt_of_le hB hN) trivial,lk,DP t _ NA.zero fun r hr hl=>by rw [ht.dead r hr hl];rfl]
  · rfl
  · intro k s r hy hk _;simp only [iF hk,PD,ik,hy,PB,tq,iJ (Nat.lt_trans hk hB)];exact ⟨trivial,trivial⟩
  · intro s _;simp only [iG,PC]
def held (p:bh):Int:=((p.py.ag.take 10).filter kg).foldl (fun n o=>i64.wrap (n+o.gE)) 0
theorem foldl_filter {α β:Type} (p:α→Bool) (g:β→α→β):∀ (l:List α) (b:β),(l.filter p).foldl g b=l.foldl (fun b y=>if p y then g b y else b) b
  | [],_=>rfl
  | y::l,b=>by
    rw [List.filter_cons,List.foldl_cons];cases h:p y
    · simp [foldl_filter p g l]
    · simp [foldl_filter p g l]
theorem foldl_map' {α β γ:Type} (f:α→γ) (g:β→γ→β):∀ (l:List α) (b:β),(l.map f).foldl g b=l.foldl (fun b y=>g b (f y)) b
  | [],_=>rfl
  | y::l,b=>by simp [foldl_map' f g l]
theorem B9 {α β:Type} (p:α→Bool) (h:α→β):∀ (l:List α) (k:Nat),mF (fun _ y=>p y) (fun _ y=>h y) k l=(l.filter p).map h
  | [],_=>rfl
  | y::l,k=>by
    unfold mF;rw [B9 p h l,List.filter_cons];split<;>simp
theorem MY {N:Nat} (hN:gT≤N) {p:bh} (hb:ic p<gT) (hw:wP p):wi N p=some (held p):=by
  have h4:=(jY hb).2.2.2.1;have hl:=jj h4;have hN':16777216≤N:=hN;unfold wi held
  rw [foldl_filter,show ((0:Int),(0:Int))=(fun (k:Nat) (n:Int)=>(n,(k:Int))) 0 0 from rfl,
    j0 (p.py.ag.take 10) (fun (k:Nat) (n:Int)=>(n,(k:Int))) (fun _ n o=>if kg o then i64.wrap (n+o.gE) else n) (fun n=>(n,(((p.py.ag.take 10).length:Nat):Int))) (fun _ _=>True) ?_ ?_ (by simp;omega) trivial,lk]
  · rfl
  · intro k n y hy hk _
    have hk2:k<10∧k<p.py.ag.length:=by simp at hk;omega
    rw [List.getElem?_take_of_lt hk2.1] at hy;have hm:=List.mem_of_getElem? hy
    have h3:decide ((k:Int)<10)=true:=by simp;omega
    refine ⟨?_,trivial⟩;simp only [iF hk2.2,h3,PD,ik,hy,PB,Gy hN (jh h4 hm) (hw y hm),iJ (show k<gT from Nat.lt_trans hk2.1 (by decide))];cases kg y<;>rfl
  · intro n _;simp only [List.length_take]
    rcases Nat.lt_or_ge 10 p.py.ag.length with h | h
    · have e:min 10 p.py.ag.length=10:=by omega
      have h3:decide (((10:Nat):Int)<(p.py.ag.length:Int))=true:=by simp;omega
      simp only [e,h3,PD];rfl
    · have e:min 10 p.py.ag.length=p.py.ag.length:=by omega
      simp only [e,iG,PC,PB]
def view (o:gP):pP:=pP.mk o.Pw o.Pf o.box o.Pu o.iz o.gE o.Pq o.iy o.im o.Ps
theorem Oi (n:Nat):(if (10:Int)<(n:Int) then (10:Int) else (n:Int))=((min 10 n:Nat):Int):=by split<;>omega
theorem CP {N:Nat} (hN:gT≤N) {p:bh} (hb:ic p<gT):oe N p=some (((p.py.ag.take 10).filter kg).map view):=by
  have h4:=(jY hb).2.2.2.1;have h10:iQ hY (p.py.ag.take 10)<gT:=Nat.lt_of_le_of_lt (KT _ _ _) h4;have hl:=jj h10;unfold oe
  have e:p.py.ag.take (min 10 p.py.ag.length)=p.py.ag.take 10:=by
    rcases Nat.lt_or_ge 10 p.py.ag.length with h | h
    · rw [show min 10 p.py.ag.length=10 by omega]
    · rw [show min 10 p.py.ag.length=p.py.ag.length by omega,List.take_of_length_le h,List.take_length]
  rw [Oi,yt (by omega),e,PB,n4 (p.py.ag.take 10) (fun _ o=>kg o) (fun _ o=>view o) hl hN,B9]
  · rfl
  · intro k t y hy hk ht;have hz:=jh h10 (List.mem_of_getElem? hy);simp only [iF hk,PD,ik,hy,PB,Gl hN hz,iJ (Nat.lt_trans hk hl),kB ht (Nat.lt_of_le_of_lt hk hl)];cases kg y<;>rfl
  · intro t;simp only [iG,PC]
theorem Nj {N:Nat} (hN:gT≤N) {p:bh} (hb:ic p<gT):vY N p=some (held p):=by
  unfold vY held;rw [CP hN hb,PB]
  have hl:(((p.py.ag.take 10).filter kg).map view).length<gT:=by
    have h1:=List.length_filter_le kg (p.py.ag.take 10);have h2:(16777216:Nat)=gT:=rfl;simp only [List.length_map];simp only [List.length_take] at h1;omega
  have e:=foldl_map' view (fun (n:Int) (o:pP)=>i64.wrap (n+o.gE)) ((p.py.ag.take 10).filter kg) 0;generalize ((p.py.ag.take 10).filter kg).map view=v at *
  rw [show ((0:Int),(0:Int))=(fun (k:Nat) (n:Int)=>(n,(k:Int))) 0 0 from rfl,
    j0 v (fun (k:Nat) (n:Int)=>(n,(k:Int))) (fun _ n o=>i64.wrap (n+o.gE)) (fun n=>(n,(v.length:Int))) (fun _ _=>True) ?_ ?_ (Nat.lt_of_lt_of_le hl hN) trivial,lk,e]
  · rfl
  · intro k n y hy hk _;simp only [iF hk,PD,ik,hy,PB,iJ (Nat.lt_trans hk hl)];exact ⟨trivial,trivial⟩
  · intro n _;simp only [iG,PC]
def sc (p:bh):hO:=if iN p.cd then iS ⟨i64.wrap ((mX p.Pg).gE+held p),(mX p.Pg).gX,(mX p.Pg).g8⟩ p.cd else mX p.Pg
theorem JH {N:Nat} (hN:gT≤N) {p:bh} (hb:ic p<gT):sx N p=some (sc p):=by
  unfold sx sc;simp only [Ck hN (jY hb).2.2.1,qz,Nj hN hb,tq,PB];cases iN p.cd<;>rfl
theorem Ju {N:Nat} (hN:gT≤N) {p:bh} (hb:ic p<gT) (hw:wP p):sJ N p=some (sc p):=by
  unfold sJ sc;simp only [Iq hN (jY hb).2.2.1,qt,MY hN hb hw,PB];cases iN p.cd<;>rfl
def wC (s:hO) (l:List bh):hO:=l.foldl (fun s p=>iS s (sc p)) s
def jD (w:hJ):Bool:=ig w.Pt 0 1000000&&(ig (w.parts.length:Int) 1 3&&(w.parts.all jk&&iN (wC ⟨0,0,0⟩ w.parts)))
def wW (l:List bh):Prop:=∀ p,p ∈ l→wP p
theorem KG {N:Nat} (hN:gT≤N) {l:List bh} (hb:iQ ic l<gT) (hw:wW l):tW N l=some (wC ⟨0,0,0⟩ l):=by
  have hB:=jj hb;unfold tW wC
  rw [show ((0:Int),(0:Int),(0:Int),(0:Int))=(fun (k:Nat) (s:hO)=>((k:Int),s.gE,s.gX,s.g8)) 0 ⟨0,0,0⟩ from rfl,
    j0 l (fun (k:Nat) (s:hO)=>((k:Int),s.gE,s.gX,s.g8)) (fun _ s p=>iS s (sc p)) (fun s=>((l.length:Int),s.gE,s.gX,s.g8)) (fun _ _=>True) ?_ ?_ (Nat.lt_of_lt_of_le hB hN) trivial,lk]
  · rfl
  · intro k s p hy hk _;have hm:=List.mem_of_getElem? hy;simp only [iF hk,PD,ik,hy,PB,Ju hN (jh hb hm) (hw p hm),iJ (Nat.lt_trans hk hB)];exact ⟨rfl,trivial⟩
  · intro s _;simp only [iG,PC]
theorem wR {N:Nat} (hN:gT≤N) {w:hJ} (hb:iQ ic w.parts<gT) (hw:wW w.parts):nm N w=some (jD w):=by
  have hB:=jj hb;unfold nm jD;simp only [lv,PB,j1];cases ig w.Pt 0 1000000
  · rfl
  cases ig (w.parts.length:Int) 1 3
  · rfl
  simp only [PE,Bool.or_self,PC,PF];rw [jT w.parts (fun _ p=>jk p) (.inl (w.parts.length:Int)) (.inr false) (Nat.lt_of_lt_of_le hB hN),kh]
  · simp only [PB,KG hN hb hw,qt];cases w.parts.all jk<;>rfl
  · intro k y hy hk;have hm:=List.mem_of_getElem? hy;simp only [iF hk,PD,ik,hy,PB,te hN (jh hb hm) (hw y hm),iJ (Nat.lt_trans hk hB)];cases jk y<;>rfl
  · simp only [iG,PC]
theorem w8 {N:Nat} (hN:gT≤N) {w:hJ} (hb:iQ ic w.parts<gT):ni N w=some (jD w):=by
  have hB:=jj hb;unfold ni jD;simp only [wx,lQ,PB,j1];cases ig w.Pt 0 1000000
  · rfl
  cases ig (w.parts.length:Int) 1 3
  · rfl
  simp only [PE,Bool.or_self,PC,PF]
  rw [show ((0:Int),(0:Int),(0:Int),(0:Int))=(fun (k:Nat) (s:hO)=>((k:Int),s.gE,s.gX,s.g8)) 0 ⟨0,0,0⟩ from rfl,
    lK w.parts (fun (k:Nat) (s:hO)=>((k:Int),s.gE,s.gX,s.g8)) (fun _ s p=>if jk p then .inl (iS s (sc p)) else .inr (.inr false)) (fun s=>.inl ((w.parts.length:Int),s.gE,s.gX,s.g8)) (fun _ _=>True) ?_ ?_ (Nat.lt_of_lt_of_le hB hN) trivial]
  · simp only [PB,qz]
    have key:∀ (l:List bh) (k:Nat) (s:hO),Sum.elim (fun (o56:Int×Int×Int×Int)=>some (iN (hO.mk o56.2.1 o56.2.2.1 o56.2.2.2))) (fun r61=>some r61) (lg (fun _ s p=>if jk p then .inl (iS s (sc p)) else .inr (.inr false)) (fun s=>.inl ((w.parts.length:Int),s.gE,s.gX,s.g8)) k s l)=some (l.all jk&&iN (wC s l)):=by
      intro l
      induction l with
      | nil=>intro k s;rfl
      | cons p l ih =>
        intro k s;unfold lg;rw [List.all_cons];cases hp:jk p
        · rfl
        · simpa [wC] using ih (k+1) (iS s (sc p))
    exact key w.parts 0 _
  · intro k s p hy hk _;have hm:=List.mem_of_getElem? hy;refine ⟨?_,fun _ _=>trivial⟩;simp only [iF hk,PD,ik,hy,PB,ti hN (jh hb hm),JH hN (jh hb hm),tq,iJ (Nat.lt_trans hk hB)];cases jk p<;>rfl
  · intro s _;simp only [iG,PC]
end Go.Kx
namespace Go.Kx
open Go
open Go.IntKind (i64)
set_option linter.unusedVariables false
set_option linter.unusedSimpArgs false
set_option maxRecDepth 10000
theorem ph {t:List g6} (h:jG t=true):t.length=5:=(rW.1 h).len
def nN (p:bh) (i:Int):Int:=if jG p.Pg&&jd p.Pg i then i else 0
theorem ll {t:List g6} {i:Int} (h:jd t i=true):0≤i∧i≤4:=by
  unfold jd at h;simp only [PG,iW] at h;exact h.1
theorem vf (p:bh) (i:Int):0≤nN p i∧nN p i≤4:=by
  unfold nN;split
  · rename_i h;simp only [PG] at h;exact ll h.2
  · omega
theorem BJ {N:Nat} (hN:gT≤N) (p:bh) (i:Int):qY N p i=some (nN p i):=by
  unfold qY nN;rw [qQ hN,PB];cases h:jG p.Pg
  · rfl
  · simp only [PE,PC,rj N (ph h),PB,PF];cases jd p.Pg i<;>rfl
theorem s7 {N:Nat} (hN:gT≤N) (t:List g6) (i:Int):lV N t i=some (jG t&&jd t i):=by
  unfold lV jd;simp only [wk hN,vT,PB];cases h:jG t
  · rfl
  have hl:=ph h;cases hi:ig i 0 4
  · rfl
  · simp only [PD,AZ hi (by omega) (show (4:Int)<(t.length:Int) by omega),PB,PF]
theorem xC {N:Nat} (hN:gT≤N) (p:bh) (i:Int):mf N p i=some (nN p i):=by
  unfold mf nN;rw [s7 hN,PB];cases (jG p.Pg&&jd p.Pg i)<;>rfl
theorem xi {p:bh} (h:jk p=true):jG p.Pg=true:=by
  unfold jk at h;simp only [PG] at h;exact h.2.2.1
theorem xH {p:bh} (h:jk p=true) {i:Int} (h0:0≤i) (h4:i≤4):idx p.Pg i=some (nth p.Pg i):=i9 h0 (by have:=ph (xi h);omega)
def s6 (p:bh) (i:Int):hO:=(nth p.Pg (nN p (nth p.py.ag i).Pu)).iH
theorem zH {N:Nat} (hN:gT≤N) {p:bh} (h:jk p=true) {i:Int} (h0:0≤i) (h9:i≤9):pt N p i=some (s6 p i):=by
  unfold pt s6;obtain ⟨r0,r4⟩:=vf p (nth p.py.ag i).Pu;simp only [((jQ h).at h0 h9).1,PB,BJ hN,xH h r0 r4]
def vV (p:bh) (i:Int):Bool:=((nth p.py.ag i).Pq==0)&&decide ((s6 p i).g8 > 0)
def runnable (p:bh) (now:Int):List Int:=(threads p now).filter (vV p)
theorem zh (p:bh) (now:Int):(runnable p now).length≤10:=by
  unfold runnable;refine Nat.le_trans (List.length_filter_le _ _) ?_;unfold threads;split
  · rename_i hp;refine Nat.le_trans (wY _ _ _ _) ?_;rw [pB (jQ hp)];exact Nat.le_refl _
  · exact Nat.zero_le _
theorem Hi {N:Nat} (hN:gT≤N) {p:bh} (hb:ic p<gT) (now:Int):rv N p now=some (runnable p now):=by
  have hl:=qF p now;unfold rv runnable;rw [y6 hN hb,PB,n4 (threads p now) (fun _ i=>vV p i) (fun _ y=>y) hl hN,pg]
  · rfl
  · intro k t y hy hk ht;obtain ⟨hp,y0,y9⟩:=mD (List.mem_of_getElem? hy);simp only [iF hk,PD,ik,hy,PB,((jQ hp).at y0 y9).1,zH hN hp y0 y9,kI,iJ (Nat.lt_trans hk hl),kB ht (Nat.lt_of_le_of_lt hk hl)]
    show (bif vV p y then _ else _)=_
    cases vV p y<;>rfl
  · intro t;simp only [iG,PC]
theorem HI {N:Nat} (hN:gT≤N) {p:bh} (hb:ic p<gT) (hw:wP p) (now:Int):re N p now=some (runnable p now):=by
  have hl:=qF p now;unfold re runnable;rw [yM hN hb hw,PB,n4 (threads p now) (fun _ i=>vV p i) (fun _ y=>y) hl hN,pg]
  · rfl
  · intro k t y hy hk ht;obtain ⟨hp,y0,y9⟩:=mD (List.mem_of_getElem? hy);obtain ⟨r0,r4⟩:=vf p (nth p.py.ag y).Pu;simp only [iF hk,PD,ik,hy,PB,((jQ hp).at y0 y9).1,xC hN,xH hp r0 r4,kI,iJ (Nat.lt_trans hk hl),kB ht (Nat.lt_of_le_of_lt hk hl)]
    show (bif vV p y then _ else _)=_
    cases vV p y<;>rfl
  · intro t;simp only [iG,PC]
end Go.Kx
namespace Go.Kx
open Go
open Go.IntKind (i64)
set_option linter.unusedVariables false
set_option linter.unusedSimpArgs false
set_option maxRecDepth 10000
def m8 (h:Int):Bool:=ig h 0 29999
def nb (h:Int):Int:=if m8 h then h % 3 else -1
def na (h:Int):Int:=if m8 h then h / 3 % 10 else -1
def Aw (h:Int):Int:=if m8 h then h / 3 / 10 else -1
theorem BF {h:Int}:m8 h=true ↔ 0≤h∧h≤29999:=iW
theorem hdiv {h:Int} (q:m8 h=true):i64.wrap (Int.tdiv h 3)=h / 3∧Int.tmod h 3=h % 3∧Int.tmod (h / 3) 10=h / 3 % 10∧i64.wrap (Int.tdiv (h / 3) 10)=h / 3 / 10:=by
  rw [BF] at q
  have h3:0≤h / 3:=by omega
  refine ⟨?_,Int.tmod_eq_emod_of_nonneg q.1,Int.tmod_eq_emod_of_nonneg h3,?_⟩
  · rw [Int.tdiv_eq_ediv_of_nonneg q.1,jg (by omega) (by omega)]
  · rw [Int.tdiv_eq_ediv_of_nonneg h3,jg (by omega) (by omega)]
theorem wj (N:Nat) (h:Int):mr N h=some (nb h):=by
  unfold mr nb;rw [pG,PB];cases q:ig h 0 29999
  · simp [m8,q]
  · simp [m8,q,(hdiv (h:=h) q).2.1]
theorem wq (N:Nat) (h:Int):my N h=some (nb h):=by
  unfold my nb;rw [r9,PB];cases q:ig h 0 29999
  · simp [m8,q]
  · simp [m8,q,(hdiv (h:=h) q).2.1]
theorem DD (N:Nat) (h:Int):oT N h=some (na h):=by
  unfold oT na;rw [pG,PB];cases q:ig h 0 29999
  · simp [m8,q]
  · simp [m8,q,(hdiv (h:=h) q).1,(hdiv (h:=h) q).2.2.1]
theorem EB (N:Nat) (h:Int):o1 N h=some (na h):=by
  unfold o1 na;rw [r9,PB];cases q:ig h 0 29999
  · simp [m8,q]
  · simp [m8,q,(hdiv (h:=h) q).1,(hdiv (h:=h) q).2.2.1]
theorem Fc (N:Nat) (h:Int):qg N h=some (Aw h):=by
  unfold qg Aw;rw [pG,PB];cases q:ig h 0 29999
  · simp [m8,q]
  · simp [m8,q,(hdiv (h:=h) q).1,(hdiv (h:=h) q).2.2.2]
theorem FO (N:Nat) (h:Int):pV N h=some (Aw h):=by
  unfold pV Aw;rw [r9,PB];cases q:ig h 0 29999
  · simp [m8,q]
  · simp [m8,q,(hdiv (h:=h) q).1,(hdiv (h:=h) q).2.2.2]
def uw (p i g:Int):Int:=if ig p 0 2&&(ig i 0 9&&ig g 0 999) then i64.wrap ((i64.wrap ((i64.wrap ((i64.wrap (g * 10))+i)) * 3))+p) else -1
theorem AJ (N:Nat) (p i g:Int):oZ N p i g=some (uw p i g):=by
  unfold oZ uw;simp only [yg,tg,lQ,PB,j1];cases ig p 0 2<;>cases ig i 0 9<;>cases ig g 0 999<;>rfl
theorem A1 (N:Nat) (p i g:Int):pj N p i g=some (uw p i g):=by
  unfold pj uw;simp only [qV,lv,PB,j1];cases ig p 0 2<;>cases ig i 0 9<;>cases ig g 0 999<;>rfl
theorem IY {h:Int} (q:0≤nb h):m8 h=true∧0≤na h∧na h≤9:=by
  unfold nb at q;unfold na;cases hk:m8 h
  · simp [hk] at q
  · rw [BF] at hk;simp only [if_true];exact ⟨trivial,by omega,by omega⟩
def jb (w:hJ) (p:Int):Bool:=ig p 0 ((w.parts.length:Int) - 1)
theorem wU {N:Nat} {w:hJ} (hl:w.parts.length<gT) (p:Int):nj N w p=some (jb w p):=by
  have hl:w.parts.length<16777216:=hl;unfold nj jb;rw [lQ,jg (by omega) (by omega)];rfl
theorem jF {w:hJ} {p:Int} (h:jb w p=true):idx w.parts p=some (nth w.parts p)∧nth w.parts p ∈ w.parts:=by
  unfold jb at h;rw [iW] at h;exact ⟨i9 h.1 (by omega),kZ h.1 (by omega)⟩
end Go.Kx
namespace Go.Kx
open Go
open Go.IntKind (i64)
set_option linter.unusedVariables false
set_option linter.unusedSimpArgs false
set_option maxRecDepth 10000
theorem ye {N:Nat} (hN:gT≤N) {own:List Int} {a b:iY} (ho:own.length<gT) (ha:a.Pd.length<gT) (hb:b.Pd.length<gT):nF N own a b=some (rE own a b):=by
  unfold nF rE;simp only [zG hN ho,uX hN ha,uX hN hb,PB,j1];cases h1:lP own
  · rfl
  cases h2:j3 a
  · rfl
  cases h3:j3 b
  · rfl
  have l2:=(sG.1 h2).1;have l3:=(sG.1 h3).1;simp only [PE,Bool.or_self,PC,PF];rw [Ms a.Pd l2 (fun k y=>!decide (y > (b.Pd[k]?).getD 0) || own.contains (k:Int)) (.inl 4) (.inr false) hN]
  · simp only [PB];cases allI _ 0 a.Pd<;>rfl
  · intro k y hy hk hd;have hz:b.Pd[k]?=some (b.Pd[k]'(by omega)):=List.getElem?_eq_getElem _;simp only [hd,PD,ik,hy,hz,PB,Option.getD_some,xy hN ho,iJ (show k<gT from Nat.lt_trans hk (by decide))];cases decide (y > b.Pd[k]'(by omega))<;>cases own.contains (k:Int)<;>rfl
  · rfl
def target (p:Int) (c:iA):Int:=if (c.Pf==7) || (c.Pf==17) then nb c.a else if c.Pf==16 then c.b else p
def other (w:hJ) (p:Int) (c:iA):Int:=if jb w (target p c) then target p c else -1
theorem F9 {N:Nat} {w:hJ} (hl:w.parts.length<gT) (p:Int) (c:iA):qa N w p c=some (other w p c):=by
  unfold qa other target;simp only [wj,wU hl,PB]
  cases c.Pf==7<;>cases c.Pf==17<;>cases c.Pf==16<;>simp only [PD,PC,PB,Bool.or_self,Bool.or_true,Bool.true_or,Bool.or_false,if_true,if_false,Bool.false_eq_true] <;>
    first | (cases jb w (nb c.a)<;>rfl) | (cases jb w c.b<;>rfl) | (cases jb w p<;>rfl)
theorem Ft {N:Nat} {w:hJ} (hl:w.parts.length<gT) (p:Int) (c:iA):pY N w p c=some (other w p c):=by
  have hl:w.parts.length<16777216:=hl;unfold pY other target jb;simp only [wq,lv,PB];rw [jg (by omega) (by omega)]
  cases c.Pf==7<;>cases c.Pf==17<;>cases c.Pf==16<;>simp only [PD,PC,PB,Bool.or_self,Bool.or_true,Bool.true_or,Bool.or_false,if_true,if_false,Bool.false_eq_true] <;>
    first | (cases ig (nb c.a) 0 ((w.parts.length:Int) - 1)<;>rfl) | (cases ig c.b 0 ((w.parts.length:Int) - 1)<;>rfl) | (cases ig p 0 ((w.parts.length:Int) - 1)<;>rfl)
theorem uU {w:hJ} {p:Int} {c:iA} (h:decide (other w p c<0)=false):jb w (other w p c)=true:=by
  unfold other at h ⊢;cases hp:jb w (target p c)
  · simp [hp] at h
  · simp [hp]
end Go.Kx
namespace Go.Kx
open Go
open Go.IntKind (i64)
set_option linter.unusedVariables false
set_option linter.unusedSimpArgs false
set_option maxRecDepth 10000
def better (p:bh) (v i:Int):Int:=if decide ((s6 p i).g8≤(s6 p v).g8) then i else v
def qk (p:bh) (now:Int):Int:=match threads p now with
  | a::b::l=>(b::l).foldl (better p) a
  | _=>-1
theorem AG {p:bh} {m:List Int}:∀ (l:List Int) (v:Int),v ∈ m→(∀ y,y ∈ l→y ∈ m)→l.foldl (better p) v ∈ m
  | [],v,hv,_=>hv
  | y::l,v,hv,h=>by
    rw [List.foldl_cons];refine AG l _ ?_ fun z hz=>h z (by simp [hz]);unfold better;split
    · exact h y (by simp)
    · exact hv
theorem ym {p:bh} {now:Int} (h:decide (qk p now ≥ 0)=true):qk p now ∈ threads p now:=by
  unfold qk at h ⊢
  cases ht:threads p now with
  | nil=>rw [ht] at h;simp at h
  | cons a l=>cases l with
    | nil=>rw [ht] at h;simp at h
    | cons b l=>exact AG (b::l) a (by simp) fun y hy=>by simp at hy ⊢;exact .inr hy
theorem LA {N:Nat} (hN:gT≤N) {p:bh} {l:List Int} (hl:l.length<gT) {body:Int×Int→Option ((Int×Int)⊕(Int×Int))} (hm:∀ y,y ∈ l→y ∈ l) {v0:Int} (I:Int→Prop) (h0:I v0)
    (hs:∀ (k:Nat) (v y:Int),l[k]?=some y→k<l.length→I v→body (v,(k:Int))=some (.inl (better p v y,((k+1:Nat):Int)))∧I (better p v y)) (he:∀ v,body (v,(l.length:Int))=some (.inr (v,(l.length:Int)))) :
    iter body N (v0,0)=some (l.foldl (better p) v0,(l.length:Int)):=by
  rw [show (v0,(0:Int))=(fun (k:Nat) (v:Int)=>(v,(k:Int))) 0 v0 from rfl,
    j0 l (fun (k:Nat) (v:Int)=>(v,(k:Int))) (fun _ v y=>better p v y) (fun v=>(v,(l.length:Int))) (fun _ v=>I v) (fun k v y hy hk hI=>hs k v y hy hk hI) (fun v _=>he v) (Nat.lt_of_lt_of_le hl hN) h0,lk]
theorem yc {p:bh} {now y:Int} (h:y ∈ threads p now):jk p=true∧0≤y∧y≤9:=mD h
theorem Ke {N:Nat} (hN:gT≤N) {p:bh} (hb:ic p<gT) (now:Int):tM N p now=some (qk p now):=by
  have hl:=qF p now;unfold tM qk;rw [y6 hN hb,PB]
  cases ht:threads p now with
  | nil=>rfl
  | cons a l=>cases l with
    | nil=>rfl
    | cons b l =>
      have hm:∀ y,y ∈ a::b::l→jk p=true∧0≤y∧y≤9:=fun y hy=>yc (by rw [ht];exact hy);rw [ht] at hl;rw [show decide ((((a::b::l).length:Nat):Int)<2)=false by simp;omega,show idx (a::b::l) 0=some a from rfl];simp only [PC,PB];rw [LA hN (p:=p) (l:=a::b::l) hl (fun _ h=>h) (fun v=>jk p=true∧0≤v∧v≤9) (hm a (by simp))]
      · have e:better p a a=a:=by unfold better;split<;>rfl
        rw [PB,List.foldl_cons,e]
      · intro k v y hy hk hI;obtain ⟨hp,y0,y9⟩:=hm y (List.mem_of_getElem? hy);refine ⟨?_,?_⟩
        · simp only [iF hk,PD,ik,hy,PB,zH hN hp y0 y9,zH hN hp hI.2.1 hI.2.2,iJ (Nat.lt_trans hk hl)];unfold better;cases decide ((s6 p y).g8≤(s6 p v).g8)<;>rfl
        · unfold better;split
          · exact ⟨hp,y0,y9⟩
          · exact hI
      · intro v;simp only [iG,PC]
theorem KB {N:Nat} (hN:gT≤N) {p:bh} (hb:ic p<gT) (hw:wP p) (now:Int):uj N p now=some (qk p now):=by
  have hl:=qF p now;have hB:(16777216:Nat)=gT:=rfl;unfold uj qk;rw [yM hN hb hw,PB]
  cases ht:threads p now with
  | nil=>rfl
  | cons a l=>cases l with
    | nil=>rfl
    | cons b l =>
      have hm:∀ y,y ∈ a::b::l→jk p=true∧0≤y∧y≤9:=fun y hy=>yc (by rw [ht];exact hy);rw [ht] at hl;rw [show decide ((((a::b::l).length:Nat):Int)<2)=false by simp;omega];simp only [PC];obtain ⟨hpa,a0,a9⟩:=hm a (by simp)
      have step:∀ (k:Nat) (v y:Int),(a::b::l)[k]?=some y→k<(a::b::l).length→(v=-1∨0≤v∧v≤9) →
          (bif (decide ((k:Int)<(((a::b::l).length:Nat):Int))) then ((bif (decide (v<0)) then (some true) else ((idx (a::b::l) (k:Int)).bind fun y14=>(idx p.py.ag y14).bind fun y27=>(idx p.py.ag v).bind fun y45=>(mf N p y27.Pu).bind fun y63=>(idx p.Pg y63).bind fun y65=>(mf N p y45.Pu).bind fun y74=>(idx p.Pg y74).bind fun y76=>some (decide (y65.iH.g8≤y76.iH.g8))):Option Bool).bind fun j11=>bif j11 then ((idx (a::b::l) (k:Int)).bind fun y87=>some (.inl (y87,i64.wrap ((k:Int)+1)))) else (some (.inl (v,i64.wrap ((k:Int)+1))))) else (some (.inr (v,(k:Int)))):Option ((Int×Int)⊕(Int×Int))) =
          some (.inl (if decide (v<0) then y else better p v y,((k+1:Nat):Int))):=by
        intro k v y hy hk hv;obtain ⟨hp,y0,y9⟩:=hm y (List.mem_of_getElem? hy);simp only [iF hk,PD,ik,hy,PB,iJ (Nat.lt_trans hk hl)];cases hd:decide (v<0)
        · have hv:0≤v∧v≤9:=by simp at hd;omega
          obtain ⟨r0,r4⟩:=vf p (nth p.py.ag y).Pu;obtain ⟨q0,q4⟩:=vf p (nth p.py.ag v).Pu;simp only [PC,((jQ hp).at y0 y9).1,((jQ hp).at hv.1 hv.2).1,xC hN,xH hp r0 r4,xH hp q0 q4,PB,Bool.false_eq_true,if_false];unfold better;rw [show (nth p.Pg (nN p (nth p.py.ag y).Pu)).iH.g8=(s6 p y).g8 from rfl,show (nth p.Pg (nN p (nth p.py.ag v).Pu)).iH.g8=(s6 p v).g8 from rfl];cases decide ((s6 p y).g8≤(s6 p v).g8)<;>rfl
        · rfl
      rw [show ((-1:Int),(0:Int))=(fun (k:Nat) (v:Int)=>(v,(k:Int))) 0 (-1) from rfl,
        j0 (a::b::l) (fun (k:Nat) (v:Int)=>(v,(k:Int))) (fun _ v y=>if decide (v<0) then y else better p v y) (fun v=>(v,(((a::b::l).length:Nat):Int))) (fun _ v=>v=-1∨0≤v∧v≤9) ?_ ?_ (by omega) (.inl rfl),lk]
      · simp only [PB];congr 1
        have key:∀ (m:List Int) (v:Int),0≤v→(∀ y,y ∈ m→0≤y)→m.foldl (fun v y=>if decide (v<0) then y else better p v y) v=m.foldl (better p) v:=by
          intro m
          induction m with
          | nil=>intro v _ _;rfl
          | cons y m ih =>
            intro v hv hy
            have hd:decide (v<0)=false:=by simp;omega
            simp only [List.foldl_cons,hd,Bool.false_eq_true,if_false];refine ih _ ?_ fun z hz=>hy z (by simp [hz]);unfold better;split
            · exact hy y (by simp)
            · exact hv
        rw [List.foldl_cons];exact key (b::l) a a0 fun y hy=>(hm y (by simp at hy ⊢;exact .inr hy)).2.1
      · intro k v y hy hk hI;refine ⟨step k v y hy hk hI,.inr ?_⟩;obtain ⟨hp,y0,y9⟩:=hm y (List.mem_of_getElem? hy);split
        · exact ⟨y0,y9⟩
        · rename_i hd;unfold better;split
          · exact ⟨y0,y9⟩
          · simp at hd;omega
      · intro v _;simp only [iG,PC]
def nB (p:bh) (l:List gP):bh:=bh.mk p.Pe p.own p.Pg (g7.mk l p.py.gc) p.gR p.Pn p.Pp p.cd p.g5 p.Pm
def IF (o:gP) (t:Int):gP:=gP.mk o.Pw o.Pf o.box o.Pu t o.gE o.Pq o.iy o.im o.Ps o.gZ o.Po o.Pk
def ve (p:bh) (now:Int):List gP:=if decide (qk p now ≥ 0) then p.py.ag.set (qk p now).toNat (IF (nth p.py.ag (qk p now)) (i64.wrap (now - 1))) else p.py.ag
def j9 (p:bh) (now:Int):bh:=if jk p&&(ig now 1 1000000&&!decide (p.g5<3)) then bh.mk p.Pe p.own p.Pg (g7.mk (ve p now) p.py.gc) p.gR p.Pn p.Pp p.cd 0 p.Pm else p
theorem Hs {N:Nat} (hN:gT≤N) {p:bh} (hb:ic p<gT) (now:Int):rn N p now=some (j9 p now):=by
  unfold rn j9 ve;simp only [pM hN hb,ti hN hb,lQ,Ke hN hb,PB,j1];cases hp:jk p
  · rfl
  cases ig now 1 1000000
  · rfl
  cases decide (p.g5<3)
  · cases hv:decide (qk p now ≥ 0)
    · rfl
    · obtain ⟨_,v0,v9⟩:=mD (ym hv);simp only [PE,Bool.or_self,PC,PD,((jQ hp).at v0 v9).1,PB,if_true];rfl
  · rfl
theorem G9 {N:Nat} (hN:gT≤N) {p:bh} (hb:ic p<gT) (hw:wP p) (now:Int):qS N p now=some (j9 p now):=by
  unfold qS j9 ve;simp only [rL hN hb,te hN hb hw,lv,KB hN hb hw,PB,j1];cases hp:jk p
  · rfl
  cases ig now 1 1000000
  · rfl
  cases decide (p.g5<3)
  · cases hv:decide (qk p now ≥ 0)
    · rfl
    · obtain ⟨_,v0,v9⟩:=mD (ym hv);simp only [PE,Bool.or_self,PC,PD,((jQ hp).at v0 v9).1,PB,if_true];rfl
  · rfl
def AV (l:List gP) (now part h:Int):Bool:=(jX l&&(m8 h&&(nb h==part)))&&(((nth l (na h)).Pf != 0)&&(((nth l (na h)).Pw==Aw h)&&nth (reach l now) (na h)))
def ib (l:List gP) (now part h:Int):Int:=bif AV l now part h then na h else -1
theorem Av {h:Int} (q:m8 h=true):0≤na h∧na h≤9:=(IY (h:=h) (by unfold nb;rw [q,if_pos rfl];rw [BF] at q;omega)).2
theorem vH {N:Nat} (hN:gT≤N) {l:List gP} (hb:iQ hY l<gT) (now part h:Int):mT N l now part h=some (ib l now part h):=by
  unfold mT ib AV;simp only [Gx hN hb,pG,wj,DD,Fc,PB,j1];cases ha:jX l
  · have e:reach l now=[]:=by unfold reach;rw [ha];rfl
    rw [e];rfl
  have har:=kl.1 ha;have hl:=pB har now;rw [show (((reach l now).length:Int)==0)=false by rw [hl];rfl,show ig h 0 29999=m8 h from rfl];cases hh:m8 h
  · rfl
  obtain ⟨s0,s9⟩:=Av hh;simp only [bne,(har.at s0 s9).1,i9 (l:=reach l now) s0 (by omega),PB];cases nb h==part<;>cases (nth l (na h)).Pf==0<;>cases (nth l (na h)).Pw==Aw h<;>cases nth (reach l now) (na h)<;>rfl
theorem vF {N:Nat} (hN:gT≤N) {l:List gP} (hb:iQ hY l<gT) (hw:wA l) (now part h:Int):mM N l now part h=some (ib l now part h):=by
  unfold mM ib AV;simp only [rF hN hb hw,Gn hN hb hw,r9,wq,EB,FO,PB,j1];cases ha:jX l
  · rfl
  have har:=kl.1 ha;have hl:=pB har now;rw [show ig h 0 29999=m8 h from rfl];cases hh:m8 h
  · rfl
  obtain ⟨s0,s9⟩:=Av hh;simp only [bne,(har.at s0 s9).1,i9 (l:=reach l now) s0 (by omega),PB];cases nb h==part<;>cases (nth l (na h)).Pf==0<;>cases (nth l (na h)).Pw==Aw h<;>cases nth (reach l now) (na h)<;>rfl
def yd (p:bh) (me now:Int) (o:gP):Bool:=decide (o.Pq > 0)&&decide (ib p.py.ag now me (i64.wrap (o.Pq - 1))<0)
def HP (o:gP):gP:=gP.mk o.Pw o.Pf o.box o.Pu o.iz o.gE 0 (-1) o.im o.Ps o.gZ o.Po o.Pk
def Bm (p:bh) (me now:Int):List gP:=p.py.ag.map fun o=>if yd p me now o then HP o else o
def k6 (p:bh) (me now:Int):bh:=if jk p&&ig me 0 2 then nB p (Bm p me now) else p
theorem td {α:Type} {body:List α×Int→Option ((List α×Int)⊕(List α×Int))} (x:List α) (f:α→α) {N:Nat} (hN:x.length<N)
    (hs:∀ (k:Nat) (t:List α) (y:α),t.length=x.length→t[k]?=some y→x[k]?=some y→k<x.length→body (t,(k:Int))=some (.inl (t.set k (f y),((k+1:Nat):Int))))
    (he:∀ t,t.length=x.length→body (t,(x.length:Int))=some (.inr (t,(x.length:Int)))):iter body N (x,0)=some (x.map f,(x.length:Int)):=by
  have key:∀ (r:List α) (d d':List α) (M:Nat),d'.length=d.length→x=d'++r→r.length<M→iter body M (d++r,(d.length:Int))=some (d++r.map f,(x.length:Int)):=by
    intro r
    induction r with
    | nil =>
      intro d d' M hd hx hM
      cases M with
      | zero=>simp at hM
      | succ M =>
        have e:d.length=x.length:=by rw [hx];simp [hd]
        unfold iter;rw [List.append_nil,e,he d e];simp
    | cons y r ih =>
      intro d d' M hd hx hM
      cases M with
      | zero=>simp at hM
      | succ M =>
        have hlen:(d++y::r).length=x.length:=by rw [hx];simp [hd]
        unfold iter;rw [hs d.length (d++y::r) y hlen (by rw [List.getElem?_append_right (Nat.le_refl _)];simp) (by rw [hx,List.getElem?_append_right (by omega)];simp [hd]) (by rw [← hlen];simp)]
        have e:(d++y::r).set d.length (f y)=(d++[f y])++r:=by rw [List.set_append_right _ _ (Nat.le_refl _)];simp
        have e2:d.length+1=(d++[f y]).length:=by simp
        simp only [PB,e];rw [e2,ih (d++[f y]) (d'++[y]) M (by simp [hd]) (by rw [hx];simp) (by simp at hM;omega)];simp
  exact key x [] [] N rfl rfl hN
theorem nv {α:Type} {l:List α} {k:Nat} {y:α} (h:l[k]?=some y):l.set k y=l:=by
  apply List.ext_getElem? fun i=>?_;rw [List.getElem?_set];split
  · rename_i e;subst e;rw [if_pos (je h),h]
  · rfl
theorem Ii {N:Nat} (hN:gT≤N) {p:bh} (hb:ic p<gT) (me now:Int):rl N p me now=some (k6 p me now):=by
  have h4:=(jY hb).2.2.2.1;have hl:=jj h4;unfold rl k6 Bm nB;simp only [pM hN hb,ti hN hb,yg,PB,j1];cases hp:jk p
  · rfl
  cases ig me 0 2
  · rfl
  simp only [PE,Bool.or_self,PC,Bool.and_self,if_true];rw [td p.py.ag (fun o=>if yd p me now o then HP o else o) (Nat.lt_of_lt_of_le hl hN)]
  · rfl
  · intro k t y ht hty hy hk;simp only [iF hk,PD,ik,hy,hty,PB,vH hN h4,kI,iJ (Nat.lt_trans hk hl),Int.toNat_natCast,List.getElem?_set_self (show k<t.length by omega),List.set_set];rw [show (decide (y.Pq > 0)&&decide (ib p.py.ag now me (i64.wrap (y.Pq - 1))<0))=yd p me now y from rfl];cases yd p me now y
    · simp [nv hty]
    · rfl
  · intro t ht;simp only [iG,PC]
theorem HL {N:Nat} (hN:gT≤N) {p:bh} (hb:ic p<gT) (hw:wP p) (me now:Int):ri N p me now=some (k6 p me now):=by
  have h4:=(jY hb).2.2.2.1;have hl:=jj h4;unfold ri k6 Bm nB;simp only [rL hN hb,te hN hb hw,lv,PB,j1];cases hp:jk p
  · rfl
  cases ig me 0 2
  · rfl
  simp only [PE,Bool.or_self,PC,Bool.and_self,if_true];rw [td p.py.ag (fun o=>if yd p me now o then HP o else o) (Nat.lt_of_lt_of_le hl hN)]
  · rfl
  · intro k t y ht hty hy hk;simp only [ht,iF hk,PD,ik,hy,hty,PB,vF hN h4 hw,kI,iJ (Nat.lt_trans hk hl),Int.toNat_natCast,List.getElem?_set_self (show k<t.length by omega),List.set_set];rw [show (decide (y.Pq > 0)&&decide (ib p.py.ag now me (i64.wrap (y.Pq - 1))<0))=yd p me now y from rfl];cases yd p me now y
    · simp [nv hty]
    · rfl
  · intro t ht;simp only [ht,iG,PC]
theorem Ez {f:gP→Nat} {g:gP→gP} (h:∀ o,f (g o)=f o):∀ l:List gP,gW f (l.map g)=gW f l
  | []=>rfl
  | o::l=>by simp only [List.map_cons,gW,h,Ez h l]
theorem GC {f:gP→Nat} {g:gP→gP} (h:∀ o,f (g o)=f o) (l:List gP):iQ f (l.map g)=iQ f l:=by
  unfold iQ;rw [Ez h,List.length_map]
theorem BT (p:bh) (me now:Int):ic (k6 p me now)=ic p:=by
  unfold k6;split
  · unfold ic nB k5 Bm;simp only;rw [GC fun o=>by split<;>rfl]
  · rfl
theorem BC (p:bh) (now:Int):ic (j9 p now)≤ic p+100:=by
  unfold j9;split
  · rename_i h;simp only [PG] at h
    have hsz:iQ hY (ve p now)≤iQ hY p.py.ag+12:=by
      unfold ve;split
      · rename_i hv;obtain ⟨_,v0,v9⟩:=mD (ym hv);have:=yo ((jQ h.1).ok _ ((jQ h.1).at v0 v9).2);exact Nat.le_trans xx (Nat.add_le_add_left this _)
      · omega
    unfold ic k5;simp only;omega
  · omega
end Go.Kx
