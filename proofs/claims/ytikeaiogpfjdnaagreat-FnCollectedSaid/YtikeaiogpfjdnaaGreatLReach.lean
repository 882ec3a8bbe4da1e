/- Plain laws: edges, what is reached, threads, who may call. No program in sight. -/
import Derived.Test.YtikeaiogpfjdnaaGreatLObj
namespace Go.Kx
open Go
set_option linter.unusedVariables false
set_option linter.unusedSimpArgs false
set_option maxRecDepth 10000
theorem rF {α β:Type} {p:Nat→α→Bool} {h:Nat→α→β} {z:β}:∀ {l:List α} {k:Nat},z ∈ kP p h k l ↔ ∃ (i:Nat) (y:α),l[i]?=some y∧p (k+i) y=true∧z=h (k+i) y
  | [],k=>by simp [kP]
  | y::l,k=>by
    have ih:=rF (p:=p) (h:=h) (z:=z) (l:=l) (k:=k+1)
    have key:(∃ (i:Nat) (x:α),(y::l)[i]?=some x∧p (k+i) x=true∧z=h (k+i) x) ↔ (p k y=true∧z=h k y)∨z ∈ kP p h (k+1) l:=by
      rw [ih]
      constructor
      · rintro ⟨i,x,h1,h2,h3⟩
        cases i with
        | zero=>simp at h1;subst h1;exact .inl ⟨h2,h3⟩
        | succ i=>exact .inr ⟨i,x,by simpa using h1,by rwa [show k+1+i=k+(i+1) by omega],by rwa [show k+1+i=k+(i+1) by omega]⟩
      · rintro (⟨h2,h3⟩ | ⟨i,x,h1,h2,h3⟩)
        · exact ⟨0,y,rfl,h2,h3⟩
        · exact ⟨i+1,x,by simpa using h1,by rwa [show k+(i+1)=k+1+i by omega],by rwa [show k+(i+1)=k+1+i by omega]⟩
    rw [key,show kP p h k (y::l)=if p k y then h k y::kP p h (k+1) l else kP p h (k+1) l from rfl]
    cases hp:p k y <;> simp
structure Ar (l:List bh):Prop where
  len:l.length=10
  sV:(nth l 0).kind=1
  yI:(nth l 0).box=-1
  zq:(nth l 0).iN=1000000
  ok:∀ o,o ∈ l→jF o=true
  ib:∀ o,o ∈ l→∀ y,y ∈ o.ib→0≤y→(nth l y).kind ≠ 0
  box:∀ (k:Nat) (o:bh),l[k]?=some o→0<k→o.kind ≠ 0→0≤o.box→(nth l o.box).kind ≠ 0
theorem BO {l:List bh} {k:Nat} {o:bh}:qB l k o=true ↔ jF o=true∧(0<k→o.kind ≠ 0→0≤o.box→(nth l o.box).kind ≠ 0)∧∀ y,y ∈ o.ib→0≤y→(nth l y).kind ≠ 0:=by
  unfold qB sH rN
  simp only [Bool.and_eq_true,List.all_eq_true,Bool.not_eq_true',Bool.and_eq_false_iff,decide_eq_false_iff_not,bne_eq_false_iff_eq,beq_eq_false_iff_ne,ne_eq]
  constructor
  · rintro ⟨⟨h1,h2⟩,h3⟩
    refine ⟨h1,fun a b c=>?_,fun y hy h0=>?_⟩
    · rcases h2 with q | q | q | q
      · omega
      · exact absurd q b
      · omega
      · exact q
    · rcases h3 y hy with q | q
      · omega
      · exact q
  · rintro ⟨h1,h2,h3⟩
    refine ⟨⟨h1,?_⟩,fun y hy=>?_⟩
    · by_cases a:0<k
      · by_cases b:o.kind=0
        · exact .inr (.inl b)
        · by_cases c:0≤o.box
          · exact .inr (.inr (.inr (h2 a b c)))
          · exact .inr (.inr (.inl (by omega)))
      · exact .inl (by omega)
    · by_cases c:0≤y
      · exact .inr (h3 y hy c)
      · exact .inl (by omega)
theorem kf {l:List bh}:kq l=true ↔ Ar l:=by
  unfold kq sg
  simp only [Bool.and_eq_true,Bool.not_eq_true',bne_eq_false_iff_eq,Bool.or_eq_false_iff,lO,Nat.zero_add,BO]
  constructor
  · rintro ⟨h1,⟨h2,h3,h4⟩,h5⟩
    have hm:∀ o,o ∈ l→∃ k:Nat,l[k]?=some o:=fun o ho=>List.getElem?_of_mem ho
    refine ⟨by omega,h2,h3,h4,fun o ho=>?_,fun o ho=>?_,fun k o hk=>?_⟩
    · obtain ⟨k,hk⟩:=hm o ho;exact (h5 k o hk).1
    · obtain ⟨k,hk⟩:=hm o ho;exact (h5 k o hk).2.2
    · exact (h5 k o hk).2.1
  · intro h
    refine ⟨by have:=h.len;omega,⟨h.sV,h.yI,h.zq⟩,fun i y hy=>⟨h.ok y (List.mem_of_getElem? hy),h.box i y hy,h.ib y (List.mem_of_getElem? hy)⟩⟩
theorem Ar.at {l:List bh} (h:Ar l) {i:Int} (h0:0≤i) (h9:i≤9):idx l i=some (nth l i)∧nth l i ∈ l:=⟨jk h0 (by have:=h.len;omega),nP h0 (by have:=h.len;omega)⟩
theorem Ar.sR {l:List bh} (h:Ar l):l.length<iy:=by rw [h.len];decide
def iY (o:bh) (now:Int):Bool:=bif o.kind==0 then true else decide (o.iN<now)
theorem vm (N:Nat) (o:bh) (now:Int):nO N o now=some (iY o now):=oc _ _ _
theorem rL (N:Nat) (o:bh) (now:Int):kY N o now=some (iY o now):=oc _ _ _
theorem yS {o:bh} {now:Int} (h:iY o now=false):o.kind ≠ 0:=by
  intro q
  unfold iY at h
  simp [q] at h
def sF (l:List bh) (i:Int) (k:Nat) (y:bh):Bool:=(decide ((k:Int) > 0)&&(y.kind != 0&&((y.box==i)&&((nth l i).kind==1)))) || (nth l i).ib.contains (k:Int)
def jL (l:List bh) (i:Int):List Int:=kP (sF l i) (fun k _=>(k:Int)) 0 l
theorem Ct {o:bh} (h:jF o=true):o.ib.length<iy:=Nat.lt_of_le_of_lt (nY h).1 (by decide)
theorem l8 {l:List bh} {i k:Int} (h:k ∈ jL l i):0≤k∧k<(l.length:Int):=by
  obtain ⟨j,y,h1,_,h3⟩:=rF.1 h
  have:=jg h1
  have h3:k=((0+j:Nat):Int):=h3
  omega
theorem CX (l:List bh) (i:Int):(jL l i).length≤l.length:=uI _ _ _ _
theorem CY {N:Nat} (hN:iy≤N) {l:List bh} (h:Ar l) {i:Int} (h0:0≤i) (h9:i≤9):pI N l i=some (jL l i):=by
  obtain ⟨q1,q2⟩:=h.at h0 h9
  have hB:=h.sR
  unfold pI jL
  rw [rT l (sF l i) (fun k _=>(k:Int)) hB hN]
  · rfl
  · intro k t y hy hk ht
    simp only [jt hk,cond_true,iT,hy,Option.bind_some,q1,tZ hN (Ct (h.ok _ q2)),lp,lG,jo (Nat.lt_trans hk hB),m0 ht (Nat.lt_of_le_of_lt hk hB)]
    show (bif sF l i k y then _ else _)=_
    cases sF l i k y <;> rfl
  · intro t
    simp only [ju,cond_false]
theorem wu {l:List bh} (h:Ar l) {i:Int} (h0:0≤i) (h9:i≤9) (hk:(nth l i).kind=0):jL l i=[]:=by
  obtain ⟨_,q2⟩:=h.at h0 h9
  have hl:(nth l i).ib=[]:=by
    have:=h.ok _ q2
    unfold jF at this
    simp only [hk,beq_self_eq_true,cond_true,Bool.and_eq_true,decide_eq_true_eq] at this
    rw [this.2.2];rfl
  rw [List.eq_nil_iff_forall_not_mem]
  intro k hm
  obtain ⟨j,y,_,h2,_⟩:=rF.1 hm
  simp [sF,hk,hl] at h2
theorem xp {N:Nat} (hN:iy≤N) {l:List bh} (hb:jr iu l<iy) (hw:wA l) (h:Ar l) {i:Int} (h0:0≤i) (h9:i≤9):ns N l i=some (jL l i):=by
  obtain ⟨q1,q2⟩:=h.at h0 h9
  have hB:=h.sR
  have hi:iE i 0 9=true:=by rw [jb];omega
  unfold ns
  simp only [oz hN hb hw,kf.2 h,pU,hi,q1,Option.bind_some,Bool.not_true,cond_false]
  cases hk:(nth l i).kind==0
  · simp only [cond_false]
    unfold jL
    rw [rT l (sF l i) (fun k _=>(k:Int)) hB hN]
    · rfl
    · intro k t y hy hk ht
      simp only [jt hk,cond_true,iT,hy,Option.bind_some,tE hN (Ct (h.ok _ q2)),lp,lG,jo (Nat.lt_trans hk hB),m0 ht (Nat.lt_of_le_of_lt hk hB)]
      unfold sF
      cases decide ((k:Int) > 0)
      · cases (nth l i).ib.contains (k:Int) <;> rfl
      cases y.kind != 0
      · cases (nth l i).ib.contains (k:Int) <;> rfl
      cases y.box==i
      · cases (nth l i).ib.contains (k:Int) <;> rfl
      · cases ((nth l i).kind==1) <;> cases (nth l i).ib.contains (k:Int) <;> rfl
    · intro t
      simp only [ju,cond_false]
  · rw [wu h h0 h9 (by simpa using hk)];rfl
inductive Reaches (l:List bh) (now:Int):Int→Prop
  | root:Reaches l now 0
  | step {i k:Int}:Reaches l now i→k ∈ jL l i→iY (nth l k) now=false→Reaches l now k
theorem Reaches.oI {l:List bh} {now:Int} (h:Ar l) {k:Int} (hr:Reaches l now k):0≤k∧k≤9:=by
  cases hr with
  | root=>omega
  | step _ h2 _=>have:=l8 h2;have:=h.len;omega
def xj:List Bool→Nat
  | []=>0
  | b::r=>(if b then 0 else 1)+xj r
def vG (r q:List Bool):Prop:=∀ k:Nat,r[k]?=some true→q[k]?=some true
theorem yM:∀ {r q:List Bool},r.length=q.length→vG r q→xj r≤xj q→r=q
  | [],[],_,_,_=>rfl
  | b::r,c::q,hl,h,hc=>by
    have hl':r.length=q.length:=by simpa using hl
    have h':vG r q:=fun k hk=>by simpa using h (k+1) (by simpa using hk)
    have key:∀ {r q:List Bool},r.length=q.length→vG r q→xj q≤xj r:=by
      intro r
      induction r with
      | nil=>intro q hl _;cases q with
        | nil=>exact Nat.le_refl _
        | cons=>simp at hl
      | cons b r ih =>
        intro q hl h
        cases q with
        | nil=>simp at hl
        | cons c q =>
          have:=ih (q:=q) (by simpa using hl) (fun k hk=>by simpa using h (k+1) (by simpa using hk))
          have h0:=h 0
          simp at h0
          simp only [xj]
          cases b <;> cases c <;> simp_all <;> omega
    have h0:=h 0
    simp at h0
    have:=key hl' h'
    simp only [xj] at hc
    cases b <;> cases c
    · exact congrArg _ (yM hl' h' (by simpa using hc))
    · exfalso;simp at hc;omega
    · simp at h0
    · exact congrArg _ (yM hl' h' (by simpa using hc))
theorem Em {r:List Bool} {k:Nat}:vG r (r.set k true):=fun j hj=>by
  rw [List.getElem?_set]
  split
  · rename_i e;subst e;rw [if_pos (jg hj)]
  · exact hj
theorem setAt {r:List Bool} {k j:Nat} (h:(r.set k true)[j]?=some true):j=k∨r[j]?=some true:=by
  rw [List.getElem?_set] at h
  split at h
  · exact .inl (by omega)
  · exact .inr h
def s7 (l:List bh) (now:Int) (r:List Bool) (y:Int):List Bool:=if iY (nth l y) now then r else r.set y.toNat true
def visit (l:List bh) (now:Int) (k:Nat) (r:List Bool) (o:bh):List Bool:=if !(nth r (k:Int)) || (iY o now&&decide ((k:Int) > 0)) then r else (jL l (k:Int)).foldl (s7 l now) r
def rp (l:List bh) (now:Int) (r:List Bool):List Bool:=foldI (visit l now) 0 r l
def n8 (l:List bh) (now:Int):Nat→List Bool→List Bool
  | 0,r=>r
  | n+1,r=>n8 l now n (rp l now r)
def reach (l:List bh) (now:Int):List Bool:=if kq l then n8 l now 10 ((List.replicate 10 false).set 0 true) else []
theorem xv (l:List bh) (now:Int) (r:List Bool) (y:Int):(s7 l now r y).length=r.length:=by unfold s7;split <;> simp
theorem zr (l:List bh) (now:Int):∀ (e:List Int) (r:List Bool),(e.foldl (s7 l now) r).length=r.length
  | [],r=>rfl
  | y::e,r=>by rw [List.foldl_cons,zr l now e,xv]
theorem sW (l:List bh) (now:Int) (k:Nat) (r:List Bool) (o:bh):(visit l now k r o).length=r.length:=by
  unfold visit
  split
  · rfl
  · exact zr _ _ _ _
theorem Fb (l:List bh) (now:Int) (r:List Bool) (y:Int):vG r (s7 l now r y):=by
  unfold s7
  split
  · exact fun _ h=>h
  · exact Em
theorem xz (l:List bh) (now:Int):∀ (e:List Int) (r:List Bool),vG r (e.foldl (s7 l now) r)
  | [],r=>fun _ h=>h
  | y::e,r=>fun k hk=>xz l now e _ k (Fb l now r y k hk)
theorem zx (l:List bh) (now:Int) (k:Nat) (r:List Bool) (o:bh):vG r (visit l now k r o):=by
  unfold visit
  split
  · exact fun _ h=>h
  · exact xz _ _ _ _
theorem zQ (l:List bh) (now:Int):∀ (e:List Int) (r:List Bool),(∀ y,y ∈ e→y.toNat<r.length)→∀ y,y ∈ e→iY (nth l y) now=false→(e.foldl (s7 l now) r)[y.toNat]?=some true
  | z::e,r,hr,y,hy,hx=>by
    rw [List.foldl_cons]
    rcases List.mem_cons.1 hy with rfl | hy
    · refine xz l now e _ _ ?_
      unfold s7
      rw [if_neg (by simp [hx]),List.getElem?_set_self (hr y (by simp))]
    · exact zQ l now e _ (fun x h=>by rw [xv];exact hr x (by simp [h])) y hy hx
def uR (l:List bh) (now:Int) (r:List Bool):Prop:=∀ k:Nat,r[k]?=some true→Reaches l now (k:Int)
theorem zz {l:List bh} {now i:Int} (hi:Reaches l now i):∀ (e:List Int) (r:List Bool),(∀ y,y ∈ e→y ∈ jL l i)→uR l now r→uR l now (e.foldl (s7 l now) r)
  | [],r,_,h=>h
  | y::e,r,he,h=>by
    rw [List.foldl_cons]
    refine zz hi e _ (fun x hx=>he x (by simp [hx])) ?_
    unfold s7
    split
    · exact h
    · rename_i hx
      intro k hk
      rcases setAt hk with q | q
      · have hy:=he y (by simp)
        have:=l8 hy
        have e:(k:Int)=y:=by omega
        rw [e]
        exact .step hi hy (by simpa using hx)
      · exact h k q
theorem wk {r:List Bool} {k:Nat}:nth r (k:Int)=true ↔ r[k]?=some true:=by
  unfold nth
  rw [Int.toNat_natCast]
  cases h:r[k]? with
  | none=>simp;try rfl
  | some b=>simp
theorem uY {l:List bh} {now:Int} {k:Nat} {r:List Bool} {o:bh} (h:uR l now r):uR l now (visit l now k r o):=by
  unfold visit
  split
  · exact h
  · rename_i hc
    simp only [Bool.or_eq_true,Bool.not_eq_true',not_or,Bool.not_eq_false] at hc
    exact zz (h k (wk.1 hc.1)) _ _ (fun _ hy=>hy) h
theorem tk {l:List bh} {now:Int}:∀ (m:List bh) (k:Nat) (r:List Bool),uR l now r→(foldI (visit l now) k r m).length=r.length∧vG r (foldI (visit l now) k r m)∧uR l now (foldI (visit l now) k r m)
  | [],k,r,h=>⟨rfl,fun _ h=>h,h⟩
  | o::m,k,r,h=>by
    obtain ⟨h1,h2,h3⟩:=tk m (k+1) (visit l now k r o) (uY h)
    exact ⟨by unfold foldI;rw [h1,sW],fun j hj=>h2 j (zx l now k r o j hj),h3⟩
def zE (l:List bh) (now:Int) (r q:List Bool):Prop:=∀ i:Nat,r[i]?=some true→∀ y,y ∈ jL l (i:Int)→iY (nth l y) now=false→q[y.toNat]?=some true
theorem r8 {l:List bh} {now:Int} (h:Ar l) {k:Int} (hr:Reaches l now k) (hk:k ≠ 0):iY (nth l k) now=false:=by
  cases hr with
  | root=>exact absurd rfl hk
  | step _ _ h3=>exact h3
theorem xK {l:List bh} {now:Int} (h:Ar l):∀ (m:List bh) (k:Nat) (r q:List Bool),(∀ j:Nat,m[j]?=l[k+j]?)→r.length=10→uR l now r→vG q r→∀ i:Nat,k≤i→q[i]?=some true→∀ y,y ∈ jL l (i:Int)→iY (nth l y) now=false→(foldI (visit l now) k r m)[y.toNat]?=some true
  | [],k,r,q,hm,hr,hs,hq,i,hi,hqi,y,hy,hx=>by
    have:=(hs i (hq i hqi)).oI h
    have h2:=hm (i - k)
    rw [show k+(i - k)=i by omega] at h2
    have:=h.len
    rw [List.getElem?_eq_getElem (show i<l.length by omega)] at h2
    simp at h2
  | o::m,k,r,q,hm,hr,hs,hq,i,hi,hqi,y,hy,hx=>by
    have ho:l[k]?=some o:=by have:=hm 0;simpa using this.symm
    unfold foldI
    rcases Nat.eq_or_lt_of_le hi with e | hlt
    · subst e
      refine (tk m (k+1) _ (uY hs)).2.1 _ ?_
      have hk:nth r (k:Int)=true:=wk.2 (hq k hqi)
      have hn:(iY o now&&decide ((k:Int) > 0))=false:=by
        by_cases h0:k=0
        · subst h0;simp
        · have:=r8 h (hs k (hq k hqi)) (by omega)
          rw [qN ho] at this
          simp [this]
      unfold visit
      rw [if_neg (by rw [hk,hn];decide)]
      exact zQ l now _ r (fun z hz=>by have:=l8 hz;have:=h.len;omega) y hy hx
    · exact xK h m (k+1) (visit l now k r o) q (fun j=>by have:=hm (j+1);rw [show k+1+j=k+(j+1) by omega, ← this];rfl) (by rw [sW,hr]) (uY hs) (fun j hj=>zx l now k r o j (hq j hj)) i hlt hqi y hy hx
theorem uD {l:List bh} {now:Int} (h:Ar l):∀ (n:Nat) (r:List Bool),r.length=10→uR l now r→(n8 l now n r).length=10∧vG r (n8 l now n r)∧uR l now (n8 l now n r)∧(xj r<n→zE l now (n8 l now n r) (n8 l now n r))
  | 0,r,hr,hs=>⟨hr,fun _ h=>h,hs,fun h=>by omega⟩
  | n+1,r,hr,hs=>by
    obtain ⟨p1,p2,p3⟩:=tk (l:=l) (now:=now) l 0 r hs
    have p4:=fun i hi=>xK h l 0 r r (fun j=>by rw [Nat.zero_add]) hr hs (fun _ h=>h) i (Nat.zero_le _) hi
    obtain ⟨q1,q2,q3,q4⟩:=uD h n (rp l now r) (by unfold rp;rw [p1,hr]) p3
    refine ⟨q1,fun k hk=>q2 k (p2 k hk),q3,fun hc=>?_⟩
    by_cases hcl:xj (rp l now r)<n
    · exact q4 hcl
    · have e:r=rp l now r:=yM p1.symm p2 (by omega)
      have fix:∀ m,n8 l now m r=r:=by
        intro m
        induction m with
        | zero=>rfl
        | succ m ih=>unfold n8;rw [← e,ih]
      rw [fix (n+1)]
      intro i hi y hy hx
      have:=p4 i hi y hy hx
      rwa [show foldI (visit l now) 0 r l=r from e.symm] at this
def Gp (l:List bh) (now:Int) (r:List Bool):Prop:=r.length=10∧∀ k:Nat,r[k]?=some true ↔ Reaches l now (k:Int)
theorem Ff {l:List bh} {now:Int} (h:Ar l) {r:List Bool} (hl:r.length=10) (hs:uR l now r) (h0:r[0]?=some true) (hc:zE l now r r):Gp l now r:=by
  refine ⟨hl,fun k=>⟨hs k,fun hr=>?_⟩⟩
  have key:∀ j:Int,Reaches l now j→r[j.toNat]?=some true:=by
    intro j hj
    induction hj with
    | root=>exact h0
    | step h1 h2 h3 ih =>
      rename_i i k
      have:=(Reaches.oI h h1)
      refine hc i.toNat ih k ?_ h3
      rwa [show ((i.toNat:Nat):Int)=i by omega]
  simpa using key k hr
theorem Fy (l:List bh) (now:Int):uR l now ((List.replicate 10 false).set 0 true):=fun k hk=>by
  rcases setAt hk with q | q
  · subst q;exact .root
  · rw [List.getElem?_replicate] at q;split at q <;> simp at q
theorem zA {l:List bh} (h:Ar l) (now:Int):Gp l now (reach l now):=by
  unfold reach
  rw [if_pos (kf.2 h)]
  obtain ⟨q1,q2,q3,q4⟩:=uD (now:=now) h 10 ((List.replicate 10 false).set 0 true) rfl (Fy l now)
  exact Ff h q1 q3 (q2 0 rfl) (q4 (by decide))
theorem nh {l:List bh} (h:Ar l) (now:Int):(reach l now).length=10:=(zA h now).1
theorem uG {l:List bh} {now:Int}:∀ (m:List bh) (k:Nat) (r:List Bool),(foldI (visit l now) k r m).length=r.length
  | [],k,r=>rfl
  | o::m,k,r=>by unfold foldI;rw [uG m,sW]
theorem Eh {N:Nat} (hN:iy≤N) {l:List bh} (h:Ar l) {now:Int} {e:List Int} (he:∀ y,y ∈ e→0≤y∧y≤9) (hl:e.length≤10) {r:List Bool} (hr:r.length=10) :
    iter (fun (s67:(List Bool)×Int)=>(bif (decide (s67.2<(e.length:Int))) then ((idx e s67.2).bind fun y70=>(idx l y70).bind fun y83=>bif (!(iY y83 now)) then ((idx s67.1 y70).bind fun y104=>some (.inl (s67.1.set (y70:Int).toNat true,IntKind.i64.wrap (s67.2+1)))) else (some (.inl (s67.1,IntKind.i64.wrap (s67.2+1))))) else (some (.inr (s67.1,s67.2))):Option (((List Bool)×Int)⊕((List Bool)×Int)))) N (r,0)=some (e.foldl (s7 l now) r,(e.length:Int)):=by
  have hB:e.length<iy:=Nat.lt_of_le_of_lt hl (by decide)
  rw [show (r,(0:Int))=(fun (k:Nat) (t:List Bool)=>(t,(k:Int))) 0 r from rfl,
    mP e (fun (k:Nat) (t:List Bool)=>(t,(k:Int))) (fun _ t y=>s7 l now t y) (fun t=>(t,(e.length:Int))) (fun _ t=>t.length=10) ?_ ?_ (Nat.lt_of_lt_of_le hB hN) hr,nX]
  · intro k t y hy hk ht
    obtain ⟨y0,y9⟩:=he y (List.mem_of_getElem? hy)
    refine ⟨?_,by rw [xv,ht]⟩
    simp only [jt hk,cond_true,iT,hy,Option.bind_some,(h.at y0 y9).1,rL,jo (Nat.lt_trans hk hB),jk (l:=t) y0 (by omega)]
    unfold s7
    cases iY (nth l y) now <;> rfl
  · intro t _
    simp only [ju,cond_false]
theorem k4 {l:List bh} (h:Ar l) (i:Int):(∀ y,y ∈ jL l i→0≤y∧y≤9)∧(jL l i).length≤10:=by
  have:=h.len
  refine ⟨fun y hy=>by have:=l8 hy;omega,by have:=CX l i;omega⟩
theorem tI {N:Nat} (hN:iy≤N) {l:List bh} (hb:jr iu l<iy) (hw:wA l) (now:Int):mK N l now=some (reach l now):=by
  unfold mK reach
  rw [oz hN hb hw,Option.bind_some]
  cases ha:kq l
  · rfl
  have h:=kf.1 ha
  have hB:=h.sR
  simp only [Bool.not_true,cond_false,if_true]
  rw [show mk Bool 10=some (List.replicate 10 false) from rfl]
  simp only [Option.bind_some]
  rw [show idx (List.replicate 10 false) 0=some false from rfl]
  simp only [Option.bind_some]
  have hin:∀ r:List Bool,r.length=10→iter (fun (s21:(List Bool)×Int)=>(bif (decide (s21.2<(l.length:Int))) then (((idx s21.1 s21.2).bind fun y26=>bif (!y26) then (some true) else ((idx l s21.2).bind fun y40=>(kY N y40 now).bind fun y58=>bif y58 then (some (decide (s21.2 > 0))) else (some false)):Option Bool).bind fun j24=>bif j24 then (some (.inl (s21.1,IntKind.i64.wrap (s21.2+1)))) else ((ns N l s21.2).bind fun y63=>(iter (fun (s67:(List Bool)×Int)=>(bif (decide (s67.2<(y63.length:Int))) then ((idx y63 s67.2).bind fun y70=>(idx l y70).bind fun y83=>(kY N y83 now).bind fun y101=>bif (!y101) then ((idx s67.1 y70).bind fun y104=>some (.inl (s67.1.set (y70:Int).toNat true,IntKind.i64.wrap (s67.2+1)))) else (some (.inl (s67.1,IntKind.i64.wrap (s67.2+1))))) else (some (.inr (s67.1,s67.2))):Option (((List Bool)×Int)⊕((List Bool)×Int)))) N (s21.1,0)).bind fun o111=>some (.inl (o111.1,IntKind.i64.wrap (s21.2+1))))) else (some (.inr (s21.1,s21.2))):Option (((List Bool)×Int)⊕((List Bool)×Int)))) N (r,0)=some (rp l now r,(l.length:Int)):=by
    intro r hr
    rw [show (r,(0:Int))=(fun (k:Nat) (t:List Bool)=>(t,(k:Int))) 0 r from rfl,
      mP l (fun (k:Nat) (t:List Bool)=>(t,(k:Int))) (fun k t y=>visit l now k t y) (fun t=>(t,(l.length:Int))) (fun _ t=>t.length=10) ?_ ?_ (Nat.lt_of_lt_of_le hB hN) hr]
    · rfl
    · intro k t y hy hk ht
      have hk10:k<10:=by rw [← h.len];exact hk
      refine ⟨?_,by rw [sW,ht]⟩
      simp only [jt hk,cond_true]
      rw [jk (l:=t) (i:=(k:Int)) (by omega) (by omega)]
      simp only [iT,hy,Option.bind_some,rL,jo (Nat.lt_trans hk hB)]
      rw [xp hN hb hw h (i:=(k:Int)) (by omega) (by omega),Option.bind_some,Eh hN h (k4 h _).1 (k4 h _).2 ht]
      unfold visit
      cases nth t (k:Int) <;> cases iY y now <;> cases decide ((k:Int) > 0) <;> rfl
    · intro t _
      simp only [ju,cond_false]
  have hout:∀ (n:Nat) (j:Nat) (r:List Bool),r.length=10→foldI (fun _ t (_:Unit)=>rp l now t) j r (List.replicate n ())=n8 l now n r:=by
    intro n
    induction n with
    | zero=>intro j r _;rfl
    | succ n ih=>intro j r hr;rw [List.replicate_succ];unfold foldI n8;exact ih _ _ (by
        have:=uG (l:=l) (now:=now) l 0 r
        unfold rp;rw [this,hr])
  rw [show (((List.replicate 10 false).set (0:Int).toNat true,(0:Int)):List Bool×Int)=(fun (k:Nat) (t:List Bool)=>(t,(k:Int))) 0 ((List.replicate 10 false).set 0 true) from rfl,
    mP (List.replicate 10 ()) (fun (k:Nat) (t:List Bool)=>(t,(k:Int))) (fun _ t _=>rp l now t) (fun t=>(t,(10:Int))) (fun _ t=>t.length=10) ?_ ?_ (FH (k:=0) hN (by decide)) rfl,hout 10 0 _ rfl]
  · rfl
  · intro k t y hy hk ht
    have hk:k<10:=by simpa using hk
    refine ⟨?_,by have:=uG (l:=l) (now:=now) l 0 t;unfold rp;rw [this,ht]⟩
    have h3:decide ((k:Int)<10)=true:=by simp;omega
    simp only [h3,cond_true]
    rw [hin t ht]
    simp only [Option.bind_some,jo (show k<iy from Nat.lt_trans hk (by decide))]
  · intro t _
    rfl
theorem Cm {r:List Bool} {y:Int} (h0:0≤y):nth r y=true ↔ r[y.toNat]?=some true:=by
  have:=wk (r:=r) (k:=y.toNat)
  rwa [show ((y.toNat:Nat):Int)=y by omega] at this
theorem mc {h:ic} (q:j7 h=true):Ar h.ag:=by
  unfold j7 at q
  simp only [Bool.and_eq_true] at q
  exact kf.1 q.1
def threads (p:ia) (now:Int):List Int:=if jR p then kP (fun k b=>b&&((nth p.heap.ag (k:Int)).kind==4)) (fun k _=>(k:Int)) 0 (reach p.heap.ag now) else []
theorem qn {p:ia} (h:jR p=true):Ar p.heap.ag:=by
  unfold jR j7 at h
  simp only [Bool.and_eq_true] at h
  exact kf.1 h.2.2.2.1.1
theorem vE {p:ia} {now k:Int} (h:k ∈ threads p now):jR p=true∧0≤k∧k≤9:=by
  unfold threads at h
  split at h
  · rename_i hp
    obtain ⟨j,b,h1,_,h3⟩:=rF.1 h
    have:=jg h1
    rw [nh (qn hp)] at this
    have h3:k=((0+j:Nat):Int):=h3
    exact ⟨hp,by omega,by omega⟩
  · simp at h
theorem AA {N:Nat} (hN:iy≤N) {l:List bh} (h:Ar l) {now:Int} {body:List Int×Int→Option ((List Int×Int)⊕(List Int×Int))}
    (hs:∀ (k:Nat) (t:List Int) (b:Bool),(reach l now)[k]?=some b→k<10→t.length≤k→body (t,(k:Int))=some (.inl (if b&&((nth l (k:Int)).kind==4) then t++[(k:Int)] else t,((k+1:Nat):Int))))
    (he:∀ t,body (t,10)=some (.inr (t,10))):iter body N ([],0)=some (kP (fun k b=>b&&((nth l (k:Int)).kind==4)) (fun k _=>(k:Int)) 0 (reach l now),10):=by
  have hl:=nh h now
  have e:((reach l now).length:Int)=10:=by omega
  rw [rT (reach l now) (fun k b=>b&&((nth l (k:Int)).kind==4)) (fun k _=>(k:Int)) (by rw [hl];decide) hN,e]
  · intro k t b hb hk ht
    exact hs k t b hb (by omega) ht
  · intro t;rw [e];exact he t
theorem B3 {N:Nat} (hN:iy≤N) {p:ia} (hb:je p<iy) (hw:wP p) (now:Int):pz N p now=some (threads p now):=by
  unfold pz threads
  rw [sv hN hb hw,Option.bind_some]
  cases hp:jR p
  · rfl
  have h:=qn hp
  have hl:=nh h now
  simp only [Bool.not_true,cond_false,tI hN (m4 hb).2.2.2.1 hw,Option.bind_some,if_true]
  rw [AA hN h]
  · rfl
  · intro k t b hy hk ht
    have hd:decide ((k:Int)<((reach p.heap.ag now).length:Int))=true:=by simp;omega
    simp only [hd,cond_true]
    rw [(h.at (i:=(k:Int)) (by omega) (by omega)).1]
    simp only [iT,hy,Option.bind_some,lp,jo (show k<iy from Nat.lt_trans hk (by decide)),m0 ht (show k+1<iy from Nat.lt_trans (Nat.succ_lt_succ hk) (by decide))]
    cases (b&&((nth p.heap.ag (k:Int)).kind==4)) <;> rfl
  · intro t
    simp only [hl];rfl
theorem zW (p:ia) (now:Int):(threads p now).length<iy:=by
  unfold threads
  split
  · rename_i hp
    refine Nat.lt_of_le_of_lt (uI _ _ _ _) ?_
    rw [nh (qn hp)];decide
  · decide
def qc (p:ia) (now:Int) (th:Int):Bool:=(threads p now).contains th&&((nth p.heap.ag th).wait==0)
theorem Cq {N:Nat} (hN:iy≤N) {p:ia} (hb:je p<iy) (hw:wP p) (now th:Int):pC N p now th=some (qc p now th):=by
  unfold pC qc
  simp only [B3 hN hb hw,Option.bind_some,tE hN (zW p now)]
  cases hc:(threads p now).contains th
  · rfl
  · obtain ⟨h1,h2,h3⟩:=vE (List.contains_iff_mem.1 hc)
    simp only [cond_true,((qn h1).at h2 h3).1,Option.bind_some,Bool.true_and]
end Go.Kx
