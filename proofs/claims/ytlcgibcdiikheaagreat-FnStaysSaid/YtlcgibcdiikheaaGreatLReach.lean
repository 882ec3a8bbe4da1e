import Derived.Test.YtlcgibcdiikheaaGreatLBoot
namespace Go.Kx
open Go
open Go.IntKind (i64)
set_option linter.unusedVariables false
set_option linter.unusedSimpArgs false
set_option maxRecDepth 10000
theorem FH {σ ρ:Type} {body:σ→Option (σ⊕ρ)} (μ:σ→Nat) (I:σ→Prop) (Q:ρ→Prop) (h:∀ s,I s→(∃ s',body s=some (.inl s')∧I s'∧μ s'<μ s)∨∃ r,body s=some (.inr r)∧Q r):∀ (N:Nat) (s:σ),I s→μ s<N→∃ r,iter body N s=some r∧Q r
  | 0,s,_,hN=>by omega
  | N+1,s,hI,hN=>by
    unfold iter
    rcases h s hI with ⟨s',h1,h2,h3⟩ | ⟨r,h1,h2⟩
    · rw [h1];exact FH μ I Q h N s' h2 (by omega)
    · rw [h1];exact ⟨r,rfl,h2⟩
theorem uH {α β:Type} {p:Nat→α→Bool} {h:Nat→α→β} {z:β}:∀ {l:List α} {k:Nat},z ∈ kW p h k l ↔ ∃ (i:Nat) (y:α),l[i]?=some y∧p (k+i) y=true∧z=h (k+i) y
  | [],k=>by simp [kW]
  | y::l,k=>by
    have ih:=uH (p:=p) (h:=h) (z:=z) (l:=l) (k:=k+1)
    have key:(∃ (i:Nat) (x:α),(y::l)[i]?=some x∧p (k+i) x=true∧z=h (k+i) x) ↔ (p k y=true∧z=h k y)∨z ∈ kW p h (k+1) l:=by
      rw [ih];constructor
      · rintro ⟨i,x,h1,h2,h3⟩
        cases i with
        | zero=>simp at h1;subst h1;exact .inl ⟨h2,h3⟩
        | succ i=>exact .inr ⟨i,x,by simpa using h1,by rwa [show k+1+i=k+(i+1) by omega],by rwa [show k+1+i=k+(i+1) by omega]⟩
      · rintro (⟨h2,h3⟩ | ⟨i,x,h1,h2,h3⟩)
        · exact ⟨0,y,rfl,h2,h3⟩
        · exact ⟨i+1,x,by simpa using h1,by rwa [show k+(i+1)=k+1+i by omega],by rwa [show k+(i+1)=k+1+i by omega]⟩
    rw [key,show kW p h k (y::l)=if p k y then h k y::kW p h (k+1) l else kW p h (k+1) l from rfl];cases hp:p k y<;>simp
structure Ar (l:List gE):Prop where
  len:l.length=10
  sv:(nth l 0).py=1
  zr:(nth l 0).box=-1
  zG:(nth l 0).iF=1000000
  ok:∀ o,o ∈ l→iN o=true
  gZ:∀ o,o ∈ l→∀ y,y ∈ o.gZ→0≤y→(nth l y).py ≠ 0
  box:∀ (k:Nat) (o:gE),l[k]?=some o→0<k→o.py ≠ 0→0≤o.box→(nth l o.box).py ≠ 0
theorem Ih {l:List gE} {k:Nat} {o:gE}:uZ l k o=true ↔ iN o=true∧(0<k→o.py ≠ 0→0≤o.box→(nth l o.box).py ≠ 0)∧∀ y,y ∈ o.gZ→0≤y→(nth l y).py ≠ 0:=by
  unfold uZ wJ vG;simp only [Rg,List.all_eq_true,Bool.not_eq_true',Bool.and_eq_false_iff,decide_eq_false_iff_not,bne_eq_false_iff_eq,beq_eq_false_iff_ne,ne_eq];constructor
  · rintro ⟨⟨h1,h2⟩,h3⟩;refine ⟨h1,fun a b c=>?_,fun y hy h0=>?_⟩
    · rcases h2 with q | q | q | q
      · omega
      · exact absurd q b
      · omega
      · exact q
    · rcases h3 y hy with q | q
      · omega
      · exact q
  · rintro ⟨h1,h2,h3⟩;refine ⟨⟨h1,?_⟩,fun y hy=>?_⟩
    · by_cases a:0<k
      · by_cases b:o.py=0
        · exact .inr (.inl b)
        · by_cases c:0≤o.box
          · exact .inr (.inr (.inr (h2 a b c)))
          · exact .inr (.inr (.inl (by omega)))
      · exact .inl (by omega)
    · by_cases c:0≤y
      · exact .inr (h3 y hy c)
      · exact .inl (by omega)
theorem jJ {l:List gE}:kM l=true ↔ Ar l:=by
  unfold kM wu;simp only [Rg,Bool.not_eq_true',bne_eq_false_iff_eq,Bool.or_eq_false_iff,mq,Nat.zero_add,Ih];constructor
  · rintro ⟨h1,⟨h2,h3,h4⟩,h5⟩;have hm:∀ o,o ∈ l→∃ k:Nat,l[k]?=some o:=fun o ho=>List.getElem?_of_mem ho;refine ⟨by omega,h2,h3,h4,fun o ho=>?_,fun o ho=>?_,fun k o hk=>?_⟩
    · obtain ⟨k,hk⟩:=hm o ho;exact (h5 k o hk).1
    · obtain ⟨k,hk⟩:=hm o ho;exact (h5 k o hk).2.2
    · exact (h5 k o hk).2.1
  · intro h;refine ⟨by have:=h.len;omega,⟨h.sv,h.zr,h.zG⟩,fun i y hy=>⟨h.ok y (List.mem_of_getElem? hy),h.box i y hy,h.gZ y (List.mem_of_getElem? hy)⟩⟩
theorem Ar.at {l:List gE} (h:Ar l) {i:Int} (h0:0≤i) (h9:i≤9):idx l i=some (nth l i)∧nth l i ∈ l:=⟨jh h0 (by have:=h.len;omega),j7 h0 (by have:=h.len;omega)⟩
theorem Ar.xw {l:List gE} (h:Ar l):l.length<gX:=by rw [h.len];decide
def iI (o:gE) (now:Int):Bool:=bif o.py==0 then true else decide (o.iF<now)
theorem xv (N:Nat) (o:gE) (now:Int):nK N o now=some (iI o now):=rV _ _ _
theorem vQ (N:Nat) (o:gE) (now:Int):mU N o now=some (iI o now):=rV _ _ _
theorem wB {o:gE} {now:Int} (h:iI o now=false):o.py ≠ 0:=by
  intro q;unfold iI at h;simp [q] at h
def wU (l:List gE) (i:Int) (k:Nat) (y:gE):Bool:=(decide ((k:Int) > 0)&&(y.py != 0&&((y.box==i)&&((nth l i).py==1)))) || (nth l i).gZ.contains (k:Int)
def jr (l:List gE) (i:Int):List Int:=kW (wU l i) (fun k _=>(k:Int)) 0 l
theorem K5 {o:gE} (h:iN o=true):o.gZ.length<gX:=Nat.lt_of_le_of_lt (ru h).1 (by decide)
theorem mc {l:List gE} {i k:Int} (h:k ∈ jr l i):0≤k∧k<(l.length:Int):=by
  obtain ⟨j,y,h1,_,h3⟩:=uH.1 h;have:=iU h1;have h3:k=((0+j:Nat):Int):=h3;omega
theorem Jp (l:List gE) (i:Int):(jr l i).length≤l.length:=xi _ _ _ _
theorem CK {N:Nat} (hN:gX≤N) {l:List gE} (h:Ar l) {i:Int} (h0:0≤i) (h9:i≤9):pF N l i=some (jr l i):=by
  obtain ⟨q1,q2⟩:=h.at h0 h9;have hB:=h.xw;unfold pF jr;rw [pc l (wU l i) (fun k _=>(k:Int)) hB hN]
  · rfl
  · intro k t y hy hk ht;simp only [iX hk,Rb,iE,hy,Q8,q1,yr hN (K5 (h.ok _ q2)),mh,lM,iZ (Nat.lt_trans hk hB),kX ht (Nat.lt_of_le_of_lt hk hB)]
    show (bif wU l i k y then _ else _)=_
    cases wU l i k y<;>rfl
  · intro t;simp only [iW,Q9]
theorem IV {l:List gE} (h:Ar l) {i:Int} (h0:0≤i) (h9:i≤9) (hk:(nth l i).py=0):jr l i=[]:=by
  obtain ⟨_,q2⟩:=h.at h0 h9
  have hl:(nth l i).gZ=[]:=by
    have:=h.ok _ q2;unfold iN at this;simp only [hk,beq_self_eq_true,Rb,Rg,decide_eq_true_eq] at this;rw [this.2.2];rfl
  rw [List.eq_nil_iff_forall_not_mem];intro k hm;obtain ⟨j,y,_,h2,_⟩:=uH.1 hm;simp [wU,hk,hl] at h2
theorem HI {N:Nat} (hN:gX≤N) {l:List gE} (hb:iY ib l<gX) (hw:wA l) (h:Ar l) {i:Int} (h0:0≤i) (h9:i≤9):rQ N l i=some (jr l i):=by
  obtain ⟨q1,q2⟩:=h.at h0 h9;have hB:=h.xw
  have hi:ic i 0 9=true:=by rw [ir];omega
  unfold rQ;simp only [sd hN hb hw,jJ.2 h,sn,hi,q1,Q8,Rd,Q9];cases hk:(nth l i).py==0
  · simp only [Q9];unfold jr;rw [pc l (wU l i) (fun k _=>(k:Int)) hB hN]
    · rfl
    · intro k t y hy hk ht;simp only [iX hk,Rb,iE,hy,Q8,xW hN (K5 (h.ok _ q2)),mh,lM,iZ (Nat.lt_trans hk hB),kX ht (Nat.lt_of_le_of_lt hk hB)];unfold wU;cases decide ((k:Int) > 0)
      · cases (nth l i).gZ.contains (k:Int)<;>rfl
      cases y.py != 0
      · cases (nth l i).gZ.contains (k:Int)<;>rfl
      cases y.box==i
      · cases (nth l i).gZ.contains (k:Int)<;>rfl
      · cases ((nth l i).py==1)<;>cases (nth l i).gZ.contains (k:Int)<;>rfl
    · intro t;simp only [iW,Q9]
  · rw [IV h h0 h9 (by simpa using hk)];rfl
inductive Reaches (l:List gE) (now:Int):Int→Prop
  | root:Reaches l now 0
  | step {i k:Int}:Reaches l now i→k ∈ jr l i→iI (nth l k) now=false→Reaches l now k
theorem Reaches.mM {l:List gE} {now:Int} (h:Ar l) {k:Int} (hr:Reaches l now k):0≤k∧k≤9:=by
  cases hr with
  | root=>omega
  | step _ h2 _=>have:=mc h2;have:=h.len;omega
def uo:List Bool→Nat
  | []=>0
  | b::r=>(if b then 0 else 1)+uo r
theorem HA:∀ {r:List Bool} {k:Nat},r[k]?=some false→uo (r.set k true)+1=uo r
  | b::r,0,h=>by simp at h;subst h;simp [uo];omega
  | b::r,k+1,h=>by
    have:=HA (r:=r) (k:=k) (by simpa using h);simp only [List.set_cons_succ,uo];omega
def yJ (r q:List Bool):Prop:=∀ k:Nat,r[k]?=some true→q[k]?=some true
theorem Fg:∀ {r q:List Bool},r.length=q.length→yJ r q→uo r≤uo q→r=q
  | [],[],_,_,_=>rfl
  | b::r,c::q,hl,h,hc=>by
    have hl':r.length=q.length:=by simpa using hl
    have h':yJ r q:=fun k hk=>by simpa using h (k+1) (by simpa using hk)
    have key:∀ {r q:List Bool},r.length=q.length→yJ r q→uo q≤uo r:=by
      intro r
      induction r with
      | nil=>intro q hl _;cases q with
        | nil=>exact Nat.le_refl _
        | cons=>simp at hl
      | cons b r ih =>
        intro q hl h
        cases q with
        | nil=>simp at hl
        | cons c q =>
          have:=ih (q:=q) (by simpa using hl) (fun k hk=>by simpa using h (k+1) (by simpa using hk));have h0:=h 0;simp at h0;simp only [uo];cases b<;>cases c<;>simp_all<;>omega
    have h0:=h 0;simp at h0;have:=key hl' h';simp only [uo] at hc;cases b<;>cases c
    · exact congrArg _ (Fg hl' h' (by simpa using hc))
    · exfalso;simp at hc;omega
    · simp at h0
    · exact congrArg _ (Fg hl' h' (by simpa using hc))
theorem HQ {r:List Bool} {k:Nat}:yJ r (r.set k true):=fun j hj=>by
  rw [List.getElem?_set];split
  · rename_i e;subst e;rw [if_pos (iU hj)]
  · exact hj
theorem setAt {r:List Bool} {k j:Nat} (h:(r.set k true)[j]?=some true):j=k∨r[j]?=some true:=by
  rw [List.getElem?_set] at h;split at h
  · exact .inl (by omega)
  · exact .inr h
def xj (l:List gE) (now:Int) (r:List Bool) (y:Int):List Bool:=if iI (nth l y) now then r else r.set y.toNat true
def visit (l:List gE) (now:Int) (k:Nat) (r:List Bool) (o:gE):List Bool:=if !(nth r (k:Int)) || (iI o now&&decide ((k:Int) > 0)) then r else (jr l (k:Int)).foldl (xj l now) r
def vz (l:List gE) (now:Int) (r:List Bool):List Bool:=foldI (visit l now) 0 r l
def rK (l:List gE) (now:Int):Nat→List Bool→List Bool
  | 0,r=>r
  | n+1,r=>rK l now n (vz l now r)
def reach (l:List gE) (now:Int):List Bool:=if kM l then rK l now 10 ((List.replicate 10 false).set 0 true) else []
theorem Cn (l:List gE) (now:Int) (r:List Bool) (y:Int):(xj l now r y).length=r.length:=by unfold xj;split<;>simp
theorem ER (l:List gE) (now:Int):∀ (e:List Int) (r:List Bool),(e.foldl (xj l now) r).length=r.length
  | [],r=>rfl
  | y::e,r=>by rw [List.foldl_cons,ER l now e,Cn]
theorem xp (l:List gE) (now:Int) (k:Nat) (r:List Bool) (o:gE):(visit l now k r o).length=r.length:=by
  unfold visit;split
  · rfl
  · exact ER _ _ _ _
theorem Pg (l:List gE) (now:Int) (r:List Bool) (y:Int):yJ r (xj l now r y):=by
  unfold xj;split
  · exact fun _ h=>h
  · exact HQ
theorem Cg (l:List gE) (now:Int):∀ (e:List Int) (r:List Bool),yJ r (e.foldl (xj l now) r)
  | [],r=>fun _ h=>h
  | y::e,r=>fun k hk=>Cg l now e _ k (Pg l now r y k hk)
theorem DO (l:List gE) (now:Int) (k:Nat) (r:List Bool) (o:gE):yJ r (visit l now k r o):=by
  unfold visit;split
  · exact fun _ h=>h
  · exact Cg _ _ _ _
theorem D6 (l:List gE) (now:Int):∀ (e:List Int) (r:List Bool),(∀ y,y ∈ e→y.toNat<r.length)→∀ y,y ∈ e→iI (nth l y) now=false→(e.foldl (xj l now) r)[y.toNat]?=some true
  | z::e,r,hr,y,hy,hx=>by
    rw [List.foldl_cons]
    rcases List.mem_cons.1 hy with rfl | hy
    · refine Cg l now e _ _ ?_;unfold xj;rw [if_neg (by simp [hx]),List.getElem?_set_self (hr y (by simp))]
    · exact D6 l now e _ (fun x h=>by rw [Cn];exact hr x (by simp [h])) y hy hx
def vW (l:List gE) (now:Int) (r:List Bool):Prop:=∀ k:Nat,r[k]?=some true→Reaches l now (k:Int)
theorem EJ {l:List gE} {now i:Int} (hi:Reaches l now i):∀ (e:List Int) (r:List Bool),(∀ y,y ∈ e→y ∈ jr l i)→vW l now r→vW l now (e.foldl (xj l now) r)
  | [],r,_,h=>h
  | y::e,r,he,h=>by
    rw [List.foldl_cons];refine EJ hi e _ (fun x hx=>he x (by simp [hx])) ?_;unfold xj;split
    · exact h
    · rename_i hx;intro k hk
      rcases setAt hk with q | q
      · have hy:=he y (by simp);have:=mc hy
        have e:(k:Int)=y:=by omega
        rw [e];exact .step hi hy (by simpa using hx)
      · exact h k q
theorem AU {r:List Bool} {k:Nat}:nth r (k:Int)=true ↔ r[k]?=some true:=by
  unfold nth;rw [Int.toNat_natCast]
  cases h:r[k]? with
  | none=>simp;try rfl
  | some b=>simp
theorem zk {l:List gE} {now:Int} {k:Nat} {r:List Bool} {o:gE} (h:vW l now r):vW l now (visit l now k r o):=by
  unfold visit;split
  · exact h
  · rename_i hc;simp only [Bool.or_eq_true,Bool.not_eq_true',not_or,Bool.not_eq_false] at hc;exact EJ (h k (AU.1 hc.1)) _ _ (fun _ hy=>hy) h
theorem xJ {l:List gE} {now:Int}:∀ (m:List gE) (k:Nat) (r:List Bool),vW l now r→(foldI (visit l now) k r m).length=r.length∧yJ r (foldI (visit l now) k r m)∧vW l now (foldI (visit l now) k r m)
  | [],k,r,h=>⟨rfl,fun _ h=>h,h⟩
  | o::m,k,r,h=>by
    obtain ⟨h1,h2,h3⟩:=xJ m (k+1) (visit l now k r o) (zk h);exact ⟨by unfold foldI;rw [h1,xp],fun j hj=>h2 j (DO l now k r o j hj),h3⟩
def zF (l:List gE) (now:Int) (r q:List Bool):Prop:=∀ i:Nat,r[i]?=some true→∀ y,y ∈ jr l (i:Int)→iI (nth l y) now=false→q[y.toNat]?=some true
theorem oe {l:List gE} {now:Int} (h:Ar l) {k:Int} (hr:Reaches l now k) (hk:k ≠ 0):iI (nth l k) now=false:=by
  cases hr with
  | root=>exact absurd rfl hk
  | step _ _ h3=>exact h3
theorem CN {l:List gE} {now:Int} (h:Ar l):∀ (m:List gE) (k:Nat) (r q:List Bool),(∀ j:Nat,m[j]?=l[k+j]?)→r.length=10→vW l now r→yJ q r→∀ i:Nat,k≤i→q[i]?=some true→∀ y,y ∈ jr l (i:Int)→iI (nth l y) now=false→(foldI (visit l now) k r m)[y.toNat]?=some true
  | [],k,r,q,hm,hr,hs,hq,i,hi,hqi,y,hy,hx=>by
    have:=(hs i (hq i hqi)).mM h;have h2:=hm (i - k);rw [show k+(i - k)=i by omega] at h2;have:=h.len;rw [List.getElem?_eq_getElem (show i<l.length by omega)] at h2;simp at h2
  | o::m,k,r,q,hm,hr,hs,hq,i,hi,hqi,y,hy,hx=>by
    have ho:l[k]?=some o:=by have:=hm 0;simpa using this.symm
    unfold foldI
    rcases Nat.eq_or_lt_of_le hi with e | hlt
    · subst e;refine (xJ m (k+1) _ (zk hs)).2.1 _ ?_;have hk:nth r (k:Int)=true:=AU.2 (hq k hqi)
      have hn:(iI o now&&decide ((k:Int) > 0))=false:=by
        by_cases h0:k=0
        · subst h0;simp
        · have:=oe h (hs k (hq k hqi)) (by omega);rw [qk ho] at this;simp [this]
      unfold visit;rw [if_neg (by rw [hk,hn];decide)];exact D6 l now _ r (fun z hz=>by have:=mc hz;have:=h.len;omega) y hy hx
    · exact CN h m (k+1) (visit l now k r o) q (fun j=>by have:=hm (j+1);rw [show k+1+j=k+(j+1) by omega, ← this];rfl) (by rw [xp,hr]) (zk hs) (fun j hj=>DO l now k r o j (hq j hj)) i hlt hqi y hy hx
theorem yN {l:List gE} {now:Int} (h:Ar l):∀ (n:Nat) (r:List Bool),r.length=10→vW l now r→(rK l now n r).length=10∧yJ r (rK l now n r)∧vW l now (rK l now n r)∧(uo r<n→zF l now (rK l now n r) (rK l now n r))
  | 0,r,hr,hs=>⟨hr,fun _ h=>h,hs,fun h=>by omega⟩
  | n+1,r,hr,hs=>by
    obtain ⟨p1,p2,p3⟩:=xJ (l:=l) (now:=now) l 0 r hs;have p4:=fun i hi=>CN h l 0 r r (fun j=>by rw [Nat.zero_add]) hr hs (fun _ h=>h) i (Nat.zero_le _) hi;obtain ⟨q1,q2,q3,q4⟩:=yN h n (vz l now r) (by unfold vz;rw [p1,hr]) p3;refine ⟨q1,fun k hk=>q2 k (p2 k hk),q3,fun hc=>?_⟩
    by_cases hcl:uo (vz l now r)<n
    · exact q4 hcl
    · have e:r=vz l now r:=Fg p1.symm p2 (by omega)
      have fix:∀ m,rK l now m r=r:=by
        intro m
        induction m with
        | zero=>rfl
        | succ m ih=>unfold rK;rw [← e,ih]
      rw [fix (n+1)];intro i hi y hy hx;have:=p4 i hi y hy hx
      rwa [show foldI (visit l now) 0 r l=r from e.symm] at this
def MI (l:List gE) (now:Int) (r:List Bool):Prop:=r.length=10∧∀ k:Nat,r[k]?=some true ↔ Reaches l now (k:Int)
theorem Jo {l:List gE} {now:Int} (h:Ar l) {r:List Bool} (hl:r.length=10) (hs:vW l now r) (h0:r[0]?=some true) (hc:zF l now r r):MI l now r:=by
  refine ⟨hl,fun k=>⟨hs k,fun hr=>?_⟩⟩
  have key:∀ j:Int,Reaches l now j→r[j.toNat]?=some true:=by
    intro j hj
    induction hj with
    | root=>exact h0
    | step h1 h2 h3 ih =>
      rename_i i k;have:=(Reaches.mM h h1);refine hc i.toNat ih k ?_ h3
      rwa [show ((i.toNat:Nat):Int)=i by omega]
  simpa using key k hr
theorem OS {l:List gE} {now:Int} {r q:List Bool} (h1:MI l now r) (h2:MI l now q):r=q:=by
  apply List.ext_getElem? fun k=>?_
  rcases Nat.lt_or_ge k 10 with hk | hk
  · have e:r[k]?=some true ↔ q[k]?=some true:=(h1.2 k).trans (h2.2 k).symm;rw [List.getElem?_eq_getElem (by rw [h1.1];exact hk),List.getElem?_eq_getElem (by rw [h2.1];exact hk)] at e ⊢;generalize r[k]'(by rw [h1.1];exact hk)=a at *;generalize q[k]'(by rw [h2.1];exact hk)=b at *;cases a<;>cases b<;>simp_all
  · rw [List.getElem?_eq_none (by rw [h1.1];exact hk),List.getElem?_eq_none (by rw [h2.1];exact hk)]
theorem KU (l:List gE) (now:Int):vW l now ((List.replicate 10 false).set 0 true):=fun k hk=>by
  rcases setAt hk with q | q
  · subst q;exact .root
  · rw [List.getElem?_replicate] at q;split at q<;>simp at q
theorem ue {l:List gE} (h:Ar l) (now:Int):MI l now (reach l now):=by
  unfold reach;rw [if_pos (jJ.2 h)];obtain ⟨q1,q2,q3,q4⟩:=yN (now:=now) h 10 ((List.replicate 10 false).set 0 true) rfl (KU l now);exact Jo h q1 q3 (q2 0 rfl) (q4 (by decide))
theorem pE {l:List gE} (h:Ar l) (now:Int):(reach l now).length=10:=(ue h now).1
theorem zt {l:List gE} {now:Int}:∀ (m:List gE) (k:Nat) (r:List Bool),(foldI (visit l now) k r m).length=r.length
  | [],k,r=>rfl
  | o::m,k,r=>by unfold foldI;rw [zt m,xp]
theorem Nz {N:Nat} (hN:gX≤N) {l:List gE} (h:Ar l) {now:Int} {e:List Int} (he:∀ y,y ∈ e→0≤y∧y≤9) (hl:e.length≤10) {r:List Bool} (hr:r.length=10) :
    iter (fun (s67:(List Bool)×Int)=>(bif (decide (s67.2<(e.length:Int))) then ((idx e s67.2).bind fun y70=>(idx l y70).bind fun y83=>bif (!(iI y83 now)) then ((idx s67.1 y70).bind fun y104=>some (.inl (s67.1.set (y70:Int).toNat true,i64.wrap (s67.2+1)))) else (some (.inl (s67.1,i64.wrap (s67.2+1))))) else (some (.inr (s67.1,s67.2))):Option (((List Bool)×Int)⊕((List Bool)×Int)))) N (r,0)=some (e.foldl (xj l now) r,(e.length:Int)):=by
  have hB:e.length<gX:=Nat.lt_of_le_of_lt hl (by decide)
  rw [show (r,(0:Int))=(fun (k:Nat) (t:List Bool)=>(t,(k:Int))) 0 r from rfl,
    kO e (fun (k:Nat) (t:List Bool)=>(t,(k:Int))) (fun _ t y=>xj l now t y) (fun t=>(t,(e.length:Int))) (fun _ t=>t.length=10) ?_ ?_ (Nat.lt_of_lt_of_le hB hN) hr,mf]
  · intro k t y hy hk ht;obtain ⟨y0,y9⟩:=he y (List.mem_of_getElem? hy);refine ⟨?_,by rw [Cn,ht]⟩;simp only [iX hk,Rb,iE,hy,Q8,(h.at y0 y9).1,vQ,iZ (Nat.lt_trans hk hB),jh (l:=t) y0 (by omega)];unfold xj;cases iI (nth l y) now<;>rfl
  · intro t _;simp only [iW,Q9]
theorem mX {l:List gE} (h:Ar l) (i:Int):(∀ y,y ∈ jr l i→0≤y∧y≤9)∧(jr l i).length≤10:=by
  have:=h.len;refine ⟨fun y hy=>by have:=mc hy;omega,by have:=Jp l i;omega⟩
theorem Cs {N:Nat} (hN:gX≤N) {l:List gE} (hb:iY ib l<gX) (hw:wA l) (now:Int):rF N l now=some (reach l now):=by
  unfold rF reach;rw [sd hN hb hw,Q8];cases ha:kM l
  · rfl
  have h:=jJ.1 ha;have hB:=h.xw;simp only [Rd,Q9,if_true];rw [show mk Bool 10=some (List.replicate 10 false) from rfl];simp only [Q8];rw [show idx (List.replicate 10 false) 0=some false from rfl];simp only [Q8]
  have hin:∀ r:List Bool,r.length=10→iter (fun (s21:(List Bool)×Int)=>(bif (decide (s21.2<(l.length:Int))) then (((idx s21.1 s21.2).bind fun y26=>bif (!y26) then (some true) else ((idx l s21.2).bind fun y40=>(mU N y40 now).bind fun y58=>bif y58 then (some (decide (s21.2 > 0))) else (some false)):Option Bool).bind fun j24=>bif j24 then (some (.inl (s21.1,i64.wrap (s21.2+1)))) else ((rQ N l s21.2).bind fun y63=>(iter (fun (s67:(List Bool)×Int)=>(bif (decide (s67.2<(y63.length:Int))) then ((idx y63 s67.2).bind fun y70=>(idx l y70).bind fun y83=>(mU N y83 now).bind fun y101=>bif (!y101) then ((idx s67.1 y70).bind fun y104=>some (.inl (s67.1.set (y70:Int).toNat true,i64.wrap (s67.2+1)))) else (some (.inl (s67.1,i64.wrap (s67.2+1))))) else (some (.inr (s67.1,s67.2))):Option (((List Bool)×Int)⊕((List Bool)×Int)))) N (s21.1,0)).bind fun o111=>some (.inl (o111.1,i64.wrap (s21.2+1))))) else (some (.inr (s21.1,s21.2))):Option (((List Bool)×Int)⊕((List Bool)×Int)))) N (r,0)=some (vz l now r,(l.length:Int)):=by
    intro r hr
    rw [show (r,(0:Int))=(fun (k:Nat) (t:List Bool)=>(t,(k:Int))) 0 r from rfl,
      kO l (fun (k:Nat) (t:List Bool)=>(t,(k:Int))) (fun k t y=>visit l now k t y) (fun t=>(t,(l.length:Int))) (fun _ t=>t.length=10) ?_ ?_ (Nat.lt_of_lt_of_le hB hN) hr]
    · rfl
    · intro k t y hy hk ht
      have hk10:k<10:=by rw [← h.len];exact hk
      refine ⟨?_,by rw [xp,ht]⟩;simp only [iX hk,Rb];rw [jh (l:=t) (i:=(k:Int)) (by omega) (by omega)];simp only [iE,hy,Q8,vQ,iZ (Nat.lt_trans hk hB)];rw [HI hN hb hw h (i:=(k:Int)) (by omega) (by omega),Q8,Nz hN h (mX h _).1 (mX h _).2 ht];unfold visit;cases nth t (k:Int)<;>cases iI y now<;>cases decide ((k:Int) > 0)<;>rfl
    · intro t _;simp only [iW,Q9]
  have hout:∀ (n:Nat) (j:Nat) (r:List Bool),r.length=10→foldI (fun _ t (_:Unit)=>vz l now t) j r (List.replicate n ())=rK l now n r:=by
    intro n
    induction n with
    | zero=>intro j r _;rfl
    | succ n ih=>intro j r hr;rw [List.replicate_succ];unfold foldI rK;exact ih _ _ (by
        have:=zt (l:=l) (now:=now) l 0 r
        unfold vz;rw [this,hr])
  rw [show (((List.replicate 10 false).set (0:Int).toNat true,(0:Int)):List Bool×Int)=(fun (k:Nat) (t:List Bool)=>(t,(k:Int))) 0 ((List.replicate 10 false).set 0 true) from rfl,
    kO (List.replicate 10 ()) (fun (k:Nat) (t:List Bool)=>(t,(k:Int))) (fun _ t _=>vz l now t) (fun t=>(t,(10:Int))) (fun _ t=>t.length=10) ?_ ?_ (OJ (k:=0) hN (by decide)) rfl,hout 10 0 _ rfl]
  · rfl
  · intro k t y hy hk ht
    have hk:k<10:=by simpa using hk
    refine ⟨?_,by have:=zt (l:=l) (now:=now) l 0 t;unfold vz;rw [this,ht]⟩
    have h3:decide ((k:Int)<10)=true:=by simp;omega
    simp only [h3,Rb];rw [hin t ht];simp only [Q8,iZ (show k<gX from Nat.lt_trans hk (by decide))]
  · intro t _;rfl
def push (l:List gE) (now:Int) (s:List Bool×List Int) (y:Int):List Bool×List Int:=if !(nth s.1 y)&&!iI (nth l y) now then (s.1.set y.toNat true,s.2++[y]) else s
theorem zH {r:List Bool} {y:Int} (h0:0≤y):nth r y=true ↔ r[y.toNat]?=some true:=by
  have:=AU (r:=r) (k:=y.toNat)
  rwa [show ((y.toNat:Nat):Int)=y by omega] at this
theorem yo {l:List gE} {now i:Int} (hi:Reaches l now i):∀ (e:List Int) (s:List Bool×List Int),(∀ y,y ∈ e→y ∈ jr l i∧0≤y∧y≤9)→s.1.length=10→vW l now s.1 →
    let z:=e.foldl (push l now) s
    z.1.length=10∧vW l now z.1∧yJ s.1 z.1∧z.2.length+uo z.1=s.2.length+uo s.1∧(∀ y,y ∈ e→iI (nth l y) now=false→z.1[y.toNat]?=some true)∧(∀ y,y ∈ s.2→y ∈ z.2) ∧
      (∀ y,y ∈ z.2→y ∈ s.2∨(0≤y∧z.1[y.toNat]?=some true))∧(∀ k:Nat,z.1[k]?=some true→s.1[k]?=some true∨(k:Int) ∈ z.2)
  | [],s,_,h1,h2=>⟨h1,h2,fun _ h=>h,rfl,fun _ h=>absurd h (by simp),fun _ h=>h,fun _ h=>.inl h,fun _ h=>.inl h⟩
  | y::e,s,he,h1,h2=>by
    obtain ⟨e1,e2,e3⟩:=he y (by simp)
    have hlt:y.toNat<s.1.length:=by omega
    simp only [List.foldl_cons]
    by_cases hc:(!(nth s.1 y)&&!iI (nth l y) now)=true
    · have hp:push l now s y=(s.1.set y.toNat true,s.2++[y]):=by unfold push;rw [if_pos hc]
      simp only [Rg,Bool.not_eq_true'] at hc
      have hf:s.1[y.toNat]?=some false:=by
        have:¬ s.1[y.toNat]?=some true:=fun q=>by rw [(zH e2).2 q] at hc;simp at hc
        rw [List.getElem?_eq_getElem hlt] at this ⊢;cases hb:s.1[y.toNat]<;>simp_all
      have hs:vW l now (s.1.set y.toNat true):=fun k hk=>by
        rcases setAt hk with q | q
        · have e:(k:Int)=y:=by omega
          rw [e];exact .step hi e1 hc.2
        · exact h2 k q
      rw [hp];obtain ⟨a1,a2,a3,a4,a5,a6,a7,a8⟩:=yo hi e (s.1.set y.toNat true,s.2++[y]) (fun x hx=>he x (by simp [hx])) (by simpa using h1) hs;have hy:(e.foldl (push l now) (s.1.set y.toNat true,s.2++[y])).1[y.toNat]?=some true:=a3 _ (List.getElem?_set_self hlt);refine ⟨a1,a2,fun k hk=>a3 k (HQ k hk),?_,fun x hx hxx=>?_,fun x hx=>a6 x (by simp [hx]),fun x hx=>?_,fun k hk=>?_⟩
      · have:=HA hf;simp only [List.length_append,List.length_cons,List.length_nil] at a4;omega
      · rcases List.mem_cons.1 hx with rfl | hx
        · exact hy
        · exact a5 x hx hxx
      · rcases a7 x hx with q | q
        · rcases List.mem_append.1 q with q | q
          · exact .inl q
          · simp at q;subst q;exact .inr ⟨e2,hy⟩
        · exact .inr q
      · rcases a8 k hk with q | q
        · rcases setAt q with q | q
          · refine .inr (a6 (k:Int) ?_)
            have e:(k:Int)=y:=by omega
            simp [e]
          · exact .inl q
        · exact .inr q
    · have hp:push l now s y=s:=by unfold push;rw [if_neg hc]
      rw [hp];obtain ⟨a1,a2,a3,a4,a5,a6,a7,a8⟩:=yo hi e s (fun x hx=>he x (by simp [hx])) h1 h2;refine ⟨a1,a2,a3,a4,fun x hx hxx=>?_,a6,a7,a8⟩
      rcases List.mem_cons.1 hx with rfl | hx
      · refine a3 _ ((zH e2).1 ?_);cases hn:nth s.1 x
        · exact absurd (show (!(nth s.1 x)&&!iI (nth l x) now)=true by simp [hn,hxx]) hc
        · rfl
      · exact a5 x hx hxx
theorem C1 (l:List gE) (now:Int):∀ (e:List Int) (s:List Bool×List Int),s.2.length≤(e.foldl (push l now) s).2.length
  | [],s=>Nat.le_refl _
  | y::e,s=>by
    rw [List.foldl_cons];refine Nat.le_trans ?_ (C1 l now e _);unfold push;split<;>simp
theorem LH {N:Nat} (hN:gX≤N) {l:List gE} (h:Ar l) {now:Int} {e:List Int} (he:∀ y,y ∈ e→0≤y∧y≤9) (hl:e.length≤10) {r:List Bool} (hr:r.length=10) {t:List Int} (ht:t.length≤100) :
    iter (fun (s45:(List Bool)×(List Int)×Int)=>(bif (decide (s45.2.2<(e.length:Int))) then ((idx e s45.2.2).bind fun y48=>((idx s45.1 y48).bind fun y63=>bif (!y63) then ((idx l y48).bind fun y77=>(nK N y77 now).bind fun y95=>some (!y95)) else (some false):Option Bool).bind fun j61=>bif j61 then ((idx s45.1 y48).bind fun y99=>(app s45.2.1 [y48]).bind fun y106=>some (.inl (s45.1.set (y48:Int).toNat true,y106,i64.wrap (s45.2.2+1)))) else (some (.inl (s45.1,s45.2.1,i64.wrap (s45.2.2+1))))) else (some (.inr (s45.1,s45.2.1,s45.2.2))):Option (((List Bool)×(List Int)×Int)⊕((List Bool)×(List Int)×Int)))) N (r,t,0) =
      some ((e.foldl (push l now) (r,t)).1,(e.foldl (push l now) (r,t)).2,(e.length:Int)):=by
  have hB:e.length<gX:=Nat.lt_of_le_of_lt hl (by decide)
  rw [show (r,t,(0:Int))=(fun (k:Nat) (s:List Bool×List Int)=>(s.1,s.2,(k:Int))) 0 (r,t) from rfl,
    kO e (fun (k:Nat) (s:List Bool×List Int)=>(s.1,s.2,(k:Int))) (fun _ s y=>push l now s y) (fun s=>(s.1,s.2,(e.length:Int))) (fun k s=>s.1.length=10∧s.2.length≤100+k) ?_ ?_ (Nat.lt_of_lt_of_le hB hN) ⟨hr,ht⟩,mf]
  · intro k s y hy hk ⟨i1,i2⟩;obtain ⟨y0,y9⟩:=he y (List.mem_of_getElem? hy)
    refine ⟨?_,by
      unfold push;split
      · simp only [List.length_set,List.length_append,List.length_cons,List.length_nil];omega
      · omega⟩
    have hkB:100+k+1<gX:=by have:(16777216:Nat)=gX:=rfl;omega
    simp only [iX hk,Rb,iE,hy,Q8,(h.at y0 y9).1,xv,iZ (Nat.lt_trans hk hB),jh (l:=s.1) y0 (by omega),kX i2 hkB,mh];unfold push;cases (!(nth s.1 y)&&!iI (nth l y) now)<;>rfl
  · intro s _;simp only [iW,Q9]
theorem Hi {N:Nat} (hN:gX≤N) {l:List gE} (hb:iY ib l<gX) (now:Int):uG N l now=some (reach l now):=by
  unfold uG;rw [zi hN hb,Q8];cases ha:kM l
  · unfold reach;rw [ha];rfl
  have h:=jJ.1 ha;simp only [Rd,Q9];rw [show mk Bool 10=some (List.replicate 10 false) from rfl];simp only [Q8];rw [show idx (List.replicate 10 false) 0=some false from rfl];simp only [Q8]
  obtain ⟨z,hz,hz1,hz2,hz3,hz4⟩:=FH (body:=fun (s18:(List Bool)×(List Int))=>(bif (decide ((s18.2.length:Int) > 0)) then ((idx s18.2 0).bind fun y21=>(sub s18.2 1 (s18.2.length:Int)).bind fun y34=>(pF N l y21).bind fun y41=>(iter (fun (s45:(List Bool)×(List Int)×Int)=>(bif (decide (s45.2.2<(y41.length:Int))) then ((idx y41 s45.2.2).bind fun y48=>((idx s45.1 y48).bind fun y63=>bif (!y63) then ((idx l y48).bind fun y77=>(nK N y77 now).bind fun y95=>some (!y95)) else (some false):Option Bool).bind fun j61=>bif j61 then ((idx s45.1 y48).bind fun y99=>(app s45.2.1 [y48]).bind fun y106=>some (.inl (s45.1.set (y48:Int).toNat true,y106,i64.wrap (s45.2.2+1)))) else (some (.inl (s45.1,s45.2.1,i64.wrap (s45.2.2+1))))) else (some (.inr (s45.1,s45.2.1,s45.2.2))):Option (((List Bool)×(List Int)×Int)⊕((List Bool)×(List Int)×Int)))) N (s18.1,y34,0)).bind fun o111=>some (.inl (o111.1,o111.2.1))) else (some (.inr (s18.1,s18.2))):Option (((List Bool)×(List Int))⊕((List Bool)×(List Int)))))
    (fun s=>s.2.length+2 * uo s.1)
    (fun s=>s.1.length=10∧vW l now s.1∧s.1[0]?=some true∧s.2.length+uo s.1≤10∧(∀ y,y ∈ s.2→0≤y∧s.1[y.toNat]?=some true)∧∀ i:Nat,s.1[i]?=some true→(i:Int) ∈ s.2∨∀ y,y ∈ jr l (i:Int)→iI (nth l y) now=false→s.1[y.toNat]?=some true)
    (fun s=>s.1.length=10∧vW l now s.1∧s.1[0]?=some true∧zF l now s.1 s.1)
    (fun s hI=>by
      obtain ⟨r,t⟩:=s;obtain ⟨i1,i2,i3,i4,i5,i6⟩:=hI;simp only at i1 i2 i3 i4 i5 i6
      cases t with
      | nil=>exact .inr ⟨(r,[]),rfl,i1,i2,i3,fun i hi=>by have:=i6 i hi;simpa using this⟩
      | cons x t =>
        left;obtain ⟨x0,xr⟩:=i5 x (by simp)
        have hx:Reaches l now x:=by have:=i2 x.toNat xr;rwa [show ((x.toNat:Nat):Int)=x by omega] at this
        obtain ⟨_,x9⟩:=hx.mM h
        have hsub:sub (x::t) 1 ((x::t).length:Int)=some t:=by
          unfold sub;rw [if_pos ⟨by omega,by simp only [List.length_cons];omega,Int.le_refl _⟩];simp
        obtain ⟨e1,e2⟩:=mX h x
        have hpos:decide (((x::t).length:Int) > 0)=true:=by simp
        obtain ⟨a1,a2,a3,a4,a5,a6,a7,a8⟩:=yo hx (jr l x) (r,t) (fun y hy=>⟨hy,e1 y hy⟩) i1 i2;simp only [List.length_cons] at i4;refine ⟨(jr l x).foldl (push l now) (r,t),?_,⟨a1,a2,a3 0 i3,by simp only at a4;omega,fun y hy=>?_,fun i hi=>?_⟩,?_⟩
        · simp only [hpos,Rb];rw [show idx (x::t) 0=some x from rfl];simp only [Q8,hsub];rw [CK hN h x0 x9,Q8,LH hN h e1 e2 i1 (by omega)];rfl
        · rcases a7 y hy with q | q
          · obtain ⟨q1,q2⟩:=i5 y (by simp [show y ∈ t from q]);exact ⟨q1,a3 _ q2⟩
          · exact q
        · rcases a8 i hi with q | q
          · rcases i6 i q with q | q
            · rcases List.mem_cons.1 q with q | q
              · rw [q];exact .inr a5
              · exact .inl (a6 _ q)
            · exact .inr fun y hy hyx=>a3 _ (q y hy hyx)
          · exact .inl q
        · simp only [List.length_cons] at a4 ⊢
          have hle:uo ((jr l x).foldl (push l now) (r,t)).1≤uo r:=by
            have:t.length≤((jr l x).foldl (push l now) (r,t)).2.length:=C1 l now (jr l x) (r,t);omega
          omega)
    N ((List.replicate 10 false).set 0 true,[0]) ⟨rfl,KU l now,rfl,by decide,fun y hy=>by simp at hy;subst hy;exact ⟨by decide,rfl⟩,fun i hi=>by
      rcases setAt hi with q | q
      · subst q;exact .inl (by simp)
      · rw [List.getElem?_replicate] at q;split at q<;>simp at q⟩ (by have:16777216≤N:=hN;simp only [show uo ((List.replicate 10 false).set 0 true)=9 from rfl,List.length_cons,List.length_nil];omega)
  rw [show ((List.replicate 10 false).set (0:Int).toNat true)=(List.replicate 10 false).set 0 true from rfl,hz,Q8];exact congrArg some (OS (Jo h hz1 hz2 hz3 hz4) (ue h now))
theorem pC {h:gV} (q:kb h=true):Ar h.ag:=by
  unfold kb at q;simp only [Rg] at q;exact jJ.1 q.1
def threads (p:cd) (now:Int):List Int:=if ik p then kW (fun k b=>b&&((nth p.heap.ag (k:Int)).py==4)) (fun k _=>(k:Int)) 0 (reach p.heap.ag now) else []
theorem iT {p:cd} (h:ik p=true):Ar p.heap.ag:=by
  unfold ik kb at h;simp only [Rg] at h;exact jJ.1 h.2.2.2.1.1
theorem oB {p:cd} {now k:Int} (h:k ∈ threads p now):ik p=true∧0≤k∧k≤9:=by
  unfold threads at h;split at h
  · rename_i hp;obtain ⟨j,b,h1,_,h3⟩:=uH.1 h;have:=iU h1;rw [pE (iT hp)] at this;have h3:k=((0+j:Nat):Int):=h3;exact ⟨hp,by omega,by omega⟩
  · simp at h
theorem AA {N:Nat} (hN:gX≤N) {l:List gE} (h:Ar l) {now:Int} {body:List Int×Int→Option ((List Int×Int)⊕(List Int×Int))}
    (hs:∀ (k:Nat) (t:List Int) (b:Bool),(reach l now)[k]?=some b→k<10→t.length≤k→body (t,(k:Int))=some (.inl (if b&&((nth l (k:Int)).py==4) then t++[(k:Int)] else t,((k+1:Nat):Int))))
    (he:∀ t,body (t,10)=some (.inr (t,10))):iter body N ([],0)=some (kW (fun k b=>b&&((nth l (k:Int)).py==4)) (fun k _=>(k:Int)) 0 (reach l now),10):=by
  have hl:=pE h now
  have e:((reach l now).length:Int)=10:=by omega
  rw [pc (reach l now) (fun k b=>b&&((nth l (k:Int)).py==4)) (fun k _=>(k:Int)) (by rw [hl];decide) hN,e]
  · intro k t b hb hk ht;exact hs k t b hb (by omega) ht
  · intro t;rw [e];exact he t
theorem CA {N:Nat} (hN:gX≤N) {p:cd} (hb:ij p<gX) (now:Int):ri N p now=some (threads p now):=by
  unfold ri threads;rw [vy hN hb,Q8];cases hp:ik p
  · rfl
  have h:=iT hp;have hl:=pE h now;simp only [Rd,Q9,Hi hN (kC hb).2.2.2.1,Q8,if_true];rw [AA hN h]
  · rfl
  · intro k t b hy hk ht
    have hd:decide ((k:Int)<((reach p.heap.ag now).length:Int))=true:=by simp;omega
    simp only [hd,Rb];rw [(h.at (i:=(k:Int)) (by omega) (by omega)).1];simp only [iE,hy,Q8,mh,iZ (show k<gX from Nat.lt_trans hk (by decide)),kX ht (show k+1<gX from Nat.lt_trans (Nat.succ_lt_succ hk) (by decide))];cases (b&&((nth p.heap.ag (k:Int)).py==4))<;>rfl
  · intro t;simp only [hl];rfl
theorem xg {N:Nat} (hN:gX≤N) {p:cd} (hb:ij p<gX) (hw:wP p) (now:Int):oD N p now=some (threads p now):=by
  unfold oD threads;rw [ud hN hb hw,Q8];cases hp:ik p
  · rfl
  have h:=iT hp;have hl:=pE h now;simp only [Rd,Q9,Cs hN (kC hb).2.2.2.1 hw,Q8,if_true];rw [AA hN h]
  · rfl
  · intro k t b hy hk ht
    have hd:decide ((k:Int)<((reach p.heap.ag now).length:Int))=true:=by simp;omega
    simp only [hd,Rb];rw [(h.at (i:=(k:Int)) (by omega) (by omega)).1];simp only [iE,hy,Q8,mh,iZ (show k<gX from Nat.lt_trans hk (by decide)),kX ht (show k+1<gX from Nat.lt_trans (Nat.succ_lt_succ hk) (by decide))];cases (b&&((nth p.heap.ag (k:Int)).py==4))<;>rfl
  · intro t;simp only [hl];rfl
theorem tL (p:cd) (now:Int):(threads p now).length<gX:=by
  unfold threads;split
  · rename_i hp;refine Nat.lt_of_le_of_lt (xi _ _ _ _) ?_;rw [pE (iT hp)];decide
  · decide
def mQ (p:cd) (now:Int) (th:Int):Bool:=(threads p now).contains th&&((nth p.heap.ag th).QW==0)
theorem Cw {N:Nat} (hN:gX≤N) {p:cd} (hb:ij p<gX) (hw:wP p) (now th:Int):rf N p now th=some (mQ p now th):=by
  unfold rf mQ;simp only [xg hN hb hw,Q8,xW hN (tL p now)];cases hc:(threads p now).contains th
  · rfl
  · obtain ⟨h1,h2,h3⟩:=oB (List.contains_iff_mem.1 hc);simp only [Rb,((iT h1).at h2 h3).1,Q8,Re]
end Go.Kx
namespace Go.Kx
open Go
open Go.IntKind (i64)
set_option linter.unusedVariables false
set_option linter.unusedSimpArgs false
set_option maxRecDepth 10000
theorem uy {α:Type} {f:α→Nat} {c:Nat}:∀ {l:List α},(∀ y,y ∈ l→f y≤c)→oU f l≤c * l.length
  | [],_=>Nat.zero_le _
  | y::l,h=>by
    have h1:=h y (by simp);have h2:=uy (l:=l) fun z hz=>h z (by simp [hz]);simp only [oU,List.length_cons,Nat.mul_add];omega
theorem EE {α:Type} {f:α→Nat} {y:α}:∀ {l:List α} {k:Nat},oU f (l.set k y)≤oU f l+f y
  | [],k=>by simp [oU]
  | z::l,0=>by simp only [List.set_cons_zero,oU];omega
  | z::l,k+1=>by
    have:=EE (f:=f) (y:=y) (l:=l) (k:=k);simp only [List.set_cons_succ,oU];omega
theorem x5 {α:Type} {f:α→Nat} {y:α} {l:List α} {k:Nat}:iY f (l.set k y)≤iY f l+f y:=by
  have:=EE (f:=f) (y:=y) (l:=l) (k:=k);unfold iY;simp only [List.length_set];omega
theorem ye {o:gE} (h:iN o=true):ib o≤12:=by
  have hl:=(ru h).1;unfold iN at h;unfold ib;cases hk:o.py==0
  · simp only [hk,Q9,Rg] at h;obtain ⟨_,_,_,_,_,hp,hl2,_⟩:=h;unfold lZ at hl2;simp only [Rg,decide_eq_true_eq,beq_iff_eq] at hl2;obtain ⟨_,_,_,_,hd,hq⟩:=hl2;rw [ir] at hp
    have:o.QV.length≤8:=by
      cases h2:o.py==2
      · rw [h2] at hd;simp only [Q9] at hd;omega
      · rw [h2] at hd;simp only [Rb] at hd;omega
    have:o.QU.length≤2:=by
      cases h3:o.py==3
      · rw [h3] at hq;simp only [Q9] at hq;omega
      · rw [h3] at hq;simp only [Rb] at hq;omega
    omega
  · simp only [hk,Rb,Rg,decide_eq_true_eq] at h;rw [h.2.2];simp [blank]
theorem Ar.sz {l:List gE} (h:Ar l):iY ib l≤130:=by
  have h1:=uy (f:=ib) (c:=12) fun y hy=>ye (h.ok y hy);have h2:=h.len;unfold iY;rw [h2] at h1 ⊢;omega
theorem lz {l:List gE} {k:Nat} {o:gE} (h:wA l) (ho:n8 o):wA (l.set k o):=fun y hy=>by
  rcases List.mem_or_eq_of_mem_set hy with q | q
  · exact h y q
  · rw [q];exact ho
def kB (o:gE) (g:Int):gE:=gE.mk g o.py o.box o.res o.iF o.bh o.QW o.iK o.iG o.mark o.gZ o.QV o.QU
def putAt (l:List gE) (o:gE) (k:Nat) (x:gE):List gE×Int:=if kM (l.set k (kB o (i64.wrap (x.Q3+1))))&&(o.py != 0) then (l.set k (kB o (i64.wrap (x.Q3+1))),(k:Int)) else (l, -1)
def rD (l:List gE) (o:gE):Nat→List gE→List gE×Int
  | _,[]=>(l, -1)
  | k,x::m=>if x.py != 0 || decide (x.Q3 ≥ 999) then rD l o (k+1) m else putAt l o k x
def kI (l:List gE) (o:gE):List gE×Int:=if kM l then rD l o 1 (l.drop 1) else (l, -1)
theorem LS {ρ:Type} {body:Int→Option (Int⊕ρ)} (l:List gE) (p:gE→Bool) (g:Nat→gE→ρ) (r:ρ) {N:Nat} (hN:l.length+1<N) (hl:1≤l.length)
    (hs:∀ (k:Nat) (x:gE),l[k]?=some x→1≤k→k<l.length→body (k:Int)=some (if p x then .inl ((k+1:Nat):Int) else .inr (g k x))) (he:body (l.length:Int)=some (.inr r)) :
    iter body N 1=some (mO (fun k (_:Unit) x=>if p x then .inl () else .inr (g (k+1) x)) (fun _=>r) 0 () (l.drop 1)):=by
  have hd:(l.drop 1).length+1=l.length:=by simp;omega
  rw [show (1:Int)=(fun (k:Nat) (_:Unit)=>((k+1:Nat):Int)) 0 () from rfl,
    nP (l.drop 1) (fun (k:Nat) (_:Unit)=>((k+1:Nat):Int)) (fun k _ x=>if p x then .inl () else .inr (g (k+1) x)) (fun _=>r) (fun _ _=>True) ?_ ?_ (by omega) trivial]
  · intro k _ x hx hk _
    have hx:l[k+1]?=some x:=by rw [← hx,List.getElem?_drop,Nat.add_comm]
    refine ⟨?_,fun _ _=>trivial⟩
    show body ((k+1:Nat):Int)=_
    rw [hs (k+1) x hx (by omega) (by omega)];cases p x<;>rfl
  · intro _ _;simp only [hd];exact he
theorem HK {ρ:Type} (l:List gE) (o:gE) (r:ρ) (c:ρ→Option (List gE×Int)) (g:Nat→gE→ρ) (hr:c r=some (l, -1)) (hg:∀ k x,c (g k x)=some (putAt l o k x)):∀ (m:List gE) (k:Nat),
    c (mO (fun k (_:Unit) x=>if x.py != 0 || decide (x.Q3 ≥ 999) then .inl () else .inr (g (k+1) x)) (fun _=>r) k () m)=some (rD l o (k+1) m)
  | [],k=>hr
  | x::m,k=>by
    unfold mO rD;cases h:(x.py != 0 || decide (x.Q3 ≥ 999))
    · simp only [Bool.false_eq_true,if_false];exact hg _ _
    · simp only [if_true];exact HK l o r c g hr hg m (k+1)
theorem J1 (o:gE) (g:Int):ib (kB o g)=ib o:=rfl
theorem yD {o:gE} {g:Int} (h:n8 o):n8 (kB o g):=h
theorem OZ {l:List gE} (h:Ar l) {o:gE} (ho:ib o≤100000) (k:Nat):iY ib (l.set k o)<gX:=by
  have h1:=h.sz;have h2:=x5 (f:=ib) (y:=o) (l:=l) (k:=k);have:(16777216:Nat)=gX:=rfl;omega
theorem Bw {N:Nat} (hN:gX≤N) {l:List gE} (hb:iY ib l<gX) (hw:wA l) {o:gE} (ho:ib o≤100000) (hwo:n8 o):pU N l o=some (kI l o):=by
  have hB:(16777216:Nat)=gX:=rfl
  have hoB:ib o<gX:=by omega
  unfold pU kI;simp only [AJ hN hb,sd hN hb hw,Q8];cases ha:kM l
  · rfl
  have h:=jJ.1 ha;have hl:=h.len;simp only [Rd,Q9,if_true];rw [LS l (fun x=>x.py != 0 || decide (x.Q3 ≥ 999)) (fun k x=>Sum.inr (putAt l o k x)) (Sum.inl (l.length:Int)) (by omega) (by omega)]
  · simp only [Q8];exact HK l o (Sum.inl (l.length:Int)) (fun o84=>Sum.elim (fun o84=>some (l, -1)) (fun r87=>some r87) o84) (fun k x=>Sum.inr (putAt l o k x)) rfl (fun k x=>rfl) _ 0
  · intro k x hx hk1 hkl;simp only [iX hkl,Rb,iE,hx,Q8,lM,iZ (show k<gX by omega),Hh hoB,Int.toNat_natCast];rw [show gE.mk (i64.wrap (x.Q3+1)) o.py o.box o.res o.iF o.bh o.QW o.iK o.iG o.mark o.gZ o.QV o.QU=kB o (i64.wrap (x.Q3+1)) from rfl,sd hN (OZ h (by rw [J1];exact ho) k) (lz hw (yD hwo))];simp only [Q8,lM];unfold putAt
    have hk:(o.py==0)=!(o.py != 0):=by simp [bne]
    rw [hk];cases (x.py != 0 || decide (x.Q3 ≥ 999))
    · cases kM (l.set k (kB o (i64.wrap (x.Q3+1))))<;>cases (o.py != 0)<;>rfl
    · rfl
  · simp only [iW,Q9]
def marked (o:gE) (m:Bool):gE:=gE.mk o.Q3 o.py o.box o.res o.iF o.bh o.QW o.iK o.iG m o.gZ o.QV o.QU
def ng (h:gV) (i:Int):gV:=if kb h&&(ic i 0 9&&((nth h.ag i).py != 0)) then gV.mk (h.ag.set i.toNat (marked (nth h.ag i) ((h.gc.QS==0) || decide (i ≥ h.gc.Q0)))) h.gc else h
theorem Eh {N:Nat} (hN:gX≤N) {h:gV} (h1:iY ib h.ag<gX) (h2:h.gc.gQ.length<gX) (hw:wA h.ag) (i:Int):sG N h i=some (ng h i):=by
  unfold sG ng;simp only [xo hN h1 h2,ya hN h1 h2 hw,sn,Q8,bne];cases q:kb h
  · rfl
  cases hi:ic i 0 9
  · rfl
  have hr:=ir.1 hi;simp only [Rd,Q9,((pC q).at hr.1 hr.2).1,Q8,Re];cases (nth h.ag i).py==0
  · cases h.gc.QS==0<;>rfl
  · rfl
end Go.Kx
namespace Go.Kx
open Go
open Go.IntKind (i64)
set_option linter.unusedVariables false
set_option linter.unusedSimpArgs false
set_option maxRecDepth 10000
def r8:List gE:=(List.replicate 10 (blank 0)).set 0 (gE.mk 0 1 (-1) 0 1000000 0 0 0 0 false [-1, -1] [] [])
def xQ:gE:=gE.mk 0 4 0 0 1000000 0 0 0 0 false [-1, -1] [] []
def A0:List gE:=r8.set 1 (kB xQ 1)
def KI:List gE:=r8.set 1 (marked (kB xQ 1) true)
theorem IZ (N:Nat):vh N=some r8:=rfl
theorem Ed:kI r8 xQ=(A0,1):=by decide
theorem II:wA r8:=by
  intro o ho
  have:∀ o ∈ r8, -9223372036854775808≤o.QW:=by decide
  exact this o ho
theorem LY:wA A0:=by
  intro o ho
  have:∀ o ∈ A0, -9223372036854775808≤o.QW:=by decide
  exact this o ho
def qh:gV:=gV.mk KI (ka.mk 0 0 0 [0])
theorem H7:ng (gV.mk A0 (ka.mk 0 0 0 [0])) 1=qh:=by decide
def o5 (a:gT):List g6:=(List.replicate 5 nX).set 0 (g6.mk true (-1) a)
theorem FG {a:gT} (h:iC a=true):iD ⟨0,0,0⟩ a=a:=by
  unfold iC wM at h;simp only [Rg,ir] at h;unfold iD;simp only [Int.zero_add];rw [ig (by omega) (by omega),ig (by omega) (by omega),ig (by omega) (by omega)]
theorem Bo (a:gT):jD (o5 a)=iC a:=by
  have h1:∀ i:Nat,allI (oP (o5 a)) (i+1) (List.replicate 4 nX)=true:=fun i=>by
    rw [mq];intro j r hr;rw [List.getElem?_replicate] at hr;split at hr
    · cases hr;rfl
    · cases hr
  have h2:allI (oP (o5 a)) 0 (o5 a)=iC a:=by
    show (((iC a&&true)&&allI (oP (o5 a)) 1 (List.replicate 4 nX)):Bool)=iC a
    rw [h1 0,Bool.and_true,Bool.and_true]
  unfold jD;rw [h2]
  show (true&&(true&&(true&&(iC a&&iC (iD ⟨0,0,0⟩ a)))))=iC a
  cases h:iC a
  · rfl
  · rw [FG h,h];rfl
theorem Kg (N:Nat) (a:gT):s7 N a=some (if iC a then (o5 a,true) else ([],false)):=by
  unfold s7;rw [rh,Q8];cases iC a<;>rfl
def PV:cd:=cd.mk (kj.mk []) [] [] (gV.mk [] (ka.mk 0 0 0 [])) [] 0 0 (gT.mk 0 0 0) 0 0
def nT (b:iO):cd:=cd.mk b.QQ b.own (o5 b.jq) qh [] 0 0 (gT.mk 0 0 0) 0 0
def vi (b:iO):Bool:=iC b.jq&&(jE b.QQ&&mJ b.own)
def oZ (b:iO):cd×Bool:=if vi b then (nT b,true) else (PV,false)
theorem Jv:n8 xQ:=by show (-9223372036854775808:Int)≤0;decide
theorem Bd (b:iO):ij (nT b)=jI b+20:=by
  show lQ b.QQ+(b.own.length+((o5 b.jq).length+((iY ib qh.ag+((qh.gc.gQ.length+0)+0))+(([]:List i7).length+0))))=lQ b.QQ+(b.own.length+0)+20
  have h1:iY ib qh.ag=14:=by decide
  have h2:qh.gc.gQ.length=1:=by decide
  have h3:(o5 b.jq).length=5:=rfl;have h4:([]:List i7).length=0:=rfl;simp only [h1,h2,h3,h4];omega
theorem J0 {N:Nat} (hN:gX≤N) {b:iO} (hb:jI b≤1048576):tR N b=some (oZ b):=by
  have h1:b.QQ.so.length<gX∧b.own.length<gX:=by have:(16777216:Nat)=gX:=rfl;unfold jI lQ at hb;omega
  unfold tR oZ vi;simp only [Kg,vR hN h1.1,zO hN h1.2,Q8,lM];cases iC b.jq
  · cases jE b.QQ<;>cases mJ b.own<;>rfl
  cases jE b.QQ
  · rfl
  cases mJ b.own
  · rfl
  simp only [if_true,Rd,Bool.or_self,Q9,Bool.and_self,IZ,Q8];rw [show gE.mk 0 4 0 0 1000000 0 0 0 0 false ([-1, -1]:List Int) [] []=xQ from rfl,Bw hN (by decide) II (by decide) Jv,Ed];simp only [Q8];rw [show xm N=some (ka.mk 0 0 0 [0]) from rfl];simp only [Q8];rw [Eh hN (by decide) (by decide) LY,H7];simp only [Q8];rw [show cd.mk b.QQ b.own (o5 b.jq) qh [] 0 0 (gT.mk 0 0 0) 0 0=nT b from rfl,sc hN (by rw [Bd];have:(16777216:Nat)=gX:=rfl;omega)];rfl
end Go.Kx
namespace Go.Kx
open Go
open Go.IntKind (i64)
set_option linter.unusedVariables false
set_option linter.unusedSimpArgs false
set_option maxRecDepth 10000
def lI (b:List iO):List cd:=b.map fun x=>(oZ x).1
def jY (b:List iO):g7:=if mH b then ⟨0,lI b⟩ else ⟨0,[]⟩
theorem Nv {N:Nat} (hN:gX≤N) {b:List iO} (hl:b.length<gX) {F:iO→Option (cd×Bool)} (hF:∀ y,y ∈ b→F y=some (oZ y)) :
    iter (fun (s10:Int×(List cd))=>(bif (decide (s10.1<(b.length:Int))) then ((idx b s10.1).bind fun y13=>(F y13).bind fun y28=>(app s10.2 [y28.1]).bind fun y45=>some (.inl (i64.wrap (s10.1+1),y45))) else (some (.inr (s10.1,s10.2))):Option ((Int×(List cd))⊕(Int×(List cd))))) N (0,[])=some ((b.length:Int),lI b):=by
  have e:∀ (l:List iO) (k:Nat) (acc:List cd),foldI (fun _ (acc:List cd) y=>acc++[(oZ y).1]) k acc l=acc++lI l:=by
    intro l
    induction l with
    | nil=>intro k acc;simp [foldI,lI]
    | cons y l ih=>intro k acc;unfold foldI;rw [ih];simp [lI]
  rw [show ((0:Int),([]:List cd))=(fun (k:Nat) (t:List cd)=>((k:Int),t)) 0 [] from rfl,
    kO b (fun (k:Nat) (t:List cd)=>((k:Int),t)) (fun _ acc y=>acc++[(oZ y).1]) (fun t=>((b.length:Int),t)) (fun k t=>t.length≤k) ?_ ?_ (Nat.lt_of_lt_of_le hl hN) (by simp),e]
  · simp
  · intro k t y hy hk ht;refine ⟨?_,by simp;omega⟩;simp only [iX hk,Rb,iE,hy,Q8,hF y (List.mem_of_getElem? hy),iZ (Nat.lt_trans hk hl),kX ht (Nat.lt_of_le_of_lt hk hl)]
  · intro t _;simp only [iW,Q9]
theorem Bg {N:Nat} (hN:gX≤N) {b:List iO} (hb:iY jI b≤1048576):qc N b=some (jY b):=by
  have hb':iY jI b<gX:=small hb;unfold qc jY;rw [Ei hN hb',Q8];cases mH b
  · rfl
  · simp only [Rd,Q9,if_true];rw [Nv hN (lN hb') fun y hy=>J0 hN (Nat.le_of_lt_succ (kn (Nat.lt_succ_of_le hb) hy))];rfl
end Go.Kx
