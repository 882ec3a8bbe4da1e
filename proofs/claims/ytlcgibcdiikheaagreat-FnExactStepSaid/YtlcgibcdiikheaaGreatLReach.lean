import Derived.Test.YtlcgibcdiikheaaGreatLBoot
namespace Go.Kx
open Go
open Go.IntKind (i64)
set_option linter.unusedVariables false
set_option linter.unusedSimpArgs false
set_option maxRecDepth 10000
theorem Jr {σ ρ:Type} {body:σ→Option (σ⊕ρ)} (μ:σ→Nat) (I:σ→Prop) (Q:ρ→Prop) (h:∀ s,I s→(∃ s',body s=some (.inl s')∧I s'∧μ s'<μ s)∨∃ r,body s=some (.inr r)∧Q r):∀ (N:Nat) (s:σ),I s→μ s<N→∃ r,iter body N s=some r∧Q r
  | 0,s,_,hN=>by omega
  | N+1,s,hI,hN=>by
    unfold iter
    rcases h s hI with ⟨s',h1,h2,h3⟩ | ⟨r,h1,h2⟩
    · rw [h1];exact Jr μ I Q h N s' h2 (by omega)
    · rw [h1];exact ⟨r,rfl,h2⟩
theorem Dw {α β:Type} {p:Nat→α→Bool} {h:Nat→α→β} {z:β}:∀ {l:List α} {k:Nat},z ∈ uW p h k l ↔ ∃ (i:Nat) (y:α),l[i]?=some y∧p (k+i) y=true∧z=h (k+i) y
  | [],k=>by simp [uW]
  | y::l,k=>by
    have ih:=Dw (p:=p) (h:=h) (z:=z) (l:=l) (k:=k+1)
    have key:(∃ (i:Nat) (x:α),(y::l)[i]?=some x∧p (k+i) x=true∧z=h (k+i) x) ↔ (p k y=true∧z=h k y)∨z ∈ uW p h (k+1) l:=by
      rw [ih];constructor
      · rintro ⟨i,x,h1,h2,h3⟩
        cases i with
        | zero=>simp at h1;subst h1;exact .inl ⟨h2,h3⟩
        | succ i=>exact .inr ⟨i,x,by simpa using h1,by rwa [show k+1+i=k+(i+1) by omega],by rwa [show k+1+i=k+(i+1) by omega]⟩
      · rintro (⟨h2,h3⟩ | ⟨i,x,h1,h2,h3⟩)
        · exact ⟨0,y,rfl,h2,h3⟩
        · exact ⟨i+1,x,by simpa using h1,by rwa [show k+(i+1)=k+1+i by omega],by rwa [show k+(i+1)=k+1+i by omega]⟩
    rw [key,show uW p h k (y::l)=if p k y then h k y::uW p h (k+1) l else uW p h (k+1) l from rfl];cases hp:p k y<;>simp
structure Ar (l:List j8):Prop where
  len:l.length=10
  TK:(nth l 0).Vc=1
  Uu:(nth l 0).box=-1
  Uq:(nth l 0).qx=1000000
  ok:∀ o,o ∈ l→sB o=true
  pX:∀ o,o ∈ l→∀ y,y ∈ o.pX→0≤y→(nth l y).Vc ≠ 0
  box:∀ (k:Nat) (o:j8),l[k]?=some o→0<k→o.Vc ≠ 0→0≤o.box→(nth l o.box).Vc ≠ 0
theorem Ms {l:List j8} {k:Nat} {o:j8}:A2 l k o=true ↔ sB o=true∧(0<k→o.Vc ≠ 0→0≤o.box→(nth l o.box).Vc ≠ 0)∧∀ y,y ∈ o.pX→0≤y→(nth l y).Vc ≠ 0:=by
  unfold A2 C6 BX;simp only [VB,List.all_eq_true,Bool.not_eq_true',Bool.and_eq_false_iff,decide_eq_false_iff_not,bne_eq_false_iff_eq,beq_eq_false_iff_ne,ne_eq];constructor
  · rintro ⟨⟨h1,h2⟩,h3⟩;refine ⟨h1,fun a b c=>?_,fun y hy h0=>?_⟩
    · rcases h2 with q | q | q | q
      · omega
      · exact absurd q b
      · omega
      · exact q
    · rcases h3 y hy with q | q
      · omega
      · exact q
  · rintro ⟨h1,h2,h3⟩;refine ⟨⟨h1,?_⟩,fun y hy=>?_⟩
    · by_cases a:0<k
      · by_cases b:o.Vc=0
        · exact .inr (.inl b)
        · by_cases c:0≤o.box
          · exact .inr (.inr (.inr (h2 a b c)))
          · exact .inr (.inr (.inl (by omega)))
      · exact .inl (by omega)
    · by_cases c:0≤y
      · exact .inr (h3 y hy c)
      · exact .inl (by omega)
theorem sG {l:List j8}:sk l=true ↔ Ar l:=by
  unfold sk CD;simp only [VB,Bool.not_eq_true',bne_eq_false_iff_eq,Bool.or_eq_false_iff,vX,Nat.zero_add,Ms];constructor
  · rintro ⟨h1,⟨h2,h3,h4⟩,h5⟩;have hm:∀ o,o ∈ l→∃ k:Nat,l[k]?=some o:=fun o ho=>List.getElem?_of_mem ho;refine ⟨by omega,h2,h3,h4,fun o ho=>?_,fun o ho=>?_,fun k o hk=>?_⟩
    · obtain ⟨k,hk⟩:=hm o ho;exact (h5 k o hk).1
    · obtain ⟨k,hk⟩:=hm o ho;exact (h5 k o hk).2.2
    · exact (h5 k o hk).2.1
  · intro h;refine ⟨by have:=h.len;omega,⟨h.TK,h.Uu,h.Uq⟩,fun i y hy=>⟨h.ok y (List.mem_of_getElem? hy),h.box i y hy,h.pX y (List.mem_of_getElem? hy)⟩⟩
theorem Ar.at {l:List j8} (h:Ar l) {i:Int} (h0:0≤i) (h9:i≤9):idx l i=some (nth l i)∧nth l i ∈ l:=⟨ri h0 (by have:=h.len;omega),tP h0 (by have:=h.len;omega)⟩
theorem Ar.DG {l:List j8} (h:Ar l):l.length<pW:=by rw [h.len];decide
def rN (o:j8) (now:Int):Bool:=bif o.Vc==0 then true else decide (o.qx<now)
theorem Dk (N:Nat) (o:j8) (now:Int):uX N o now=some (rN o now):=xI _ _ _
theorem BT (N:Nat) (o:j8) (now:Int):uo N o now=some (rN o now):=xI _ _ _
def Gb (l:List j8) (i:Int) (k:Nat) (y:j8):Bool:=(decide ((k:Int) > 0)&&(y.Vc != 0&&((y.box==i)&&((nth l i).Vc==1)))) || (nth l i).pX.contains (k:Int)
def uk (l:List j8) (i:Int):List Int:=uW (Gb l i) (fun k _=>(k:Int)) 0 l
theorem OA {o:j8} (h:sB o=true):o.pX.length<pW:=Nat.lt_of_le_of_lt (BE h).1 (by decide)
theorem Dn {l:List j8} {i k:Int} (h:k ∈ uk l i):0≤k∧k<(l.length:Int):=by
  obtain ⟨j,y,h1,_,h3⟩:=Dw.1 h;have:=rD h1;have h3:k=((0+j:Nat):Int):=h3;omega
theorem OW (l:List j8) (i:Int):(uk l i).length≤l.length:=Ds _ _ _ _
theorem HV {N:Nat} (hN:pW≤N) {l:List j8} (h:Ar l) {i:Int} (h0:0≤i) (h9:i≤9):xa N l i=some (uk l i):=by
  obtain ⟨q1,q2⟩:=h.at h0 h9;have hB:=h.DG;unfold xa uk;rw [wK l (Gb l i) (fun k _=>(k:Int)) hB hN]
  · rfl
  · intro k t y hy hk ht;simp only [qQ hk,Vy,qv,hy,Vw,q1,A8 hN (OA (h.ok _ q2)),tz,sA,qV (Nat.lt_trans hk hB),tQ ht (Nat.lt_of_le_of_lt hk hB)]
    show (bif Gb l i k y then _ else _)=_
    cases Gb l i k y<;>rfl
  · intro t;simp only [qR,Vx]
theorem Nq {l:List j8} (h:Ar l) {i:Int} (h0:0≤i) (h9:i≤9) (hk:(nth l i).Vc=0):uk l i=[]:=by
  obtain ⟨_,q2⟩:=h.at h0 h9
  have hl:(nth l i).pX=[]:=by
    have:=h.ok _ q2;unfold sB at this;simp only [hk,beq_self_eq_true,Vy,VB,decide_eq_true_eq] at this;rw [this.2.2];rfl
  rw [List.eq_nil_iff_forall_not_mem];intro k hm;obtain ⟨j,y,_,h2,_⟩:=Dw.1 hm;simp [Gb,hk,hl] at h2
theorem L5 {N:Nat} (hN:pW≤N) {l:List j8} (hb:qU qf l<pW) (hw:wA l) (h:Ar l) {i:Int} (h0:0≤i) (h9:i≤9):zf N l i=some (uk l i):=by
  obtain ⟨q1,q2⟩:=h.at h0 h9;have hB:=h.DG
  have hi:qn i 0 9=true:=by rw [rk];omega
  unfold zf;simp only [yS hN hb hw,sG.2 h,zj,hi,q1,Vw,Vz,Vx];cases hk:(nth l i).Vc==0
  · simp only [Vx];unfold uk;rw [wK l (Gb l i) (fun k _=>(k:Int)) hB hN]
    · rfl
    · intro k t y hy hk ht;simp only [qQ hk,Vy,qv,hy,Vw,DS hN (OA (h.ok _ q2)),tz,sA,qV (Nat.lt_trans hk hB),tQ ht (Nat.lt_of_le_of_lt hk hB)];unfold Gb;cases decide ((k:Int) > 0)
      · cases (nth l i).pX.contains (k:Int)<;>rfl
      cases y.Vc != 0
      · cases (nth l i).pX.contains (k:Int)<;>rfl
      cases y.box==i
      · cases (nth l i).pX.contains (k:Int)<;>rfl
      · cases ((nth l i).Vc==1)<;>cases (nth l i).pX.contains (k:Int)<;>rfl
    · intro t;simp only [qR,Vx]
  · rw [Nq h h0 h9 (by simpa using hk)];rfl
inductive Reaches (l:List j8) (now:Int):Int→Prop
  | root:Reaches l now 0
  | step {i k:Int}:Reaches l now i→k ∈ uk l i→rN (nth l k) now=false→Reaches l now k
theorem Reaches.FV {l:List j8} {now:Int} (h:Ar l) {k:Int} (hr:Reaches l now k):0≤k∧k≤9:=by
  cases hr with
  | root=>omega
  | step _ h2 _=>have:=Dn h2;have:=h.len;omega
def AE:List Bool→Nat
  | []=>0
  | b::r=>(if b then 0 else 1)+AE r
theorem LQ:∀ {r:List Bool} {k:Nat},r[k]?=some false→AE (r.set k true)+1=AE r
  | b::r,0,h=>by simp at h;subst h;simp [AE];omega
  | b::r,k+1,h=>by
    have:=LQ (r:=r) (k:=k) (by simpa using h);simp only [List.set_cons_succ,AE];omega
def Fj (r q:List Bool):Prop:=∀ k:Nat,r[k]?=some true→q[k]?=some true
theorem Ka:∀ {r q:List Bool},r.length=q.length→Fj r q→AE r≤AE q→r=q
  | [],[],_,_,_=>rfl
  | b::r,c::q,hl,h,hc=>by
    have hl':r.length=q.length:=by simpa using hl
    have h':Fj r q:=fun k hk=>by simpa using h (k+1) (by simpa using hk)
    have key:∀ {r q:List Bool},r.length=q.length→Fj r q→AE q≤AE r:=by
      intro r
      induction r with
      | nil=>intro q hl _;cases q with
        | nil=>exact Nat.le_refl _
        | cons=>simp at hl
      | cons b r ih =>
        intro q hl h
        cases q with
        | nil=>simp at hl
        | cons c q =>
          have:=ih (q:=q) (by simpa using hl) (fun k hk=>by simpa using h (k+1) (by simpa using hk));have h0:=h 0;simp at h0;simp only [AE];cases b<;>cases c<;>simp_all<;>omega
    have h0:=h 0;simp at h0;have:=key hl' h';simp only [AE] at hc;cases b<;>cases c
    · exact congrArg _ (Ka hl' h' (by simpa using hc))
    · exfalso;simp at hc;omega
    · simp at h0
    · exact congrArg _ (Ka hl' h' (by simpa using hc))
theorem Me {r:List Bool} {k:Nat}:Fj r (r.set k true):=fun j hj=>by
  rw [List.getElem?_set];split
  · rename_i e;subst e;rw [if_pos (rD hj)]
  · exact hj
theorem setAt {r:List Bool} {k j:Nat} (h:(r.set k true)[j]?=some true):j=k∨r[j]?=some true:=by
  rw [List.getElem?_set] at h;split at h
  · exact .inl (by omega)
  · exact .inr h
def Dt (l:List j8) (now:Int) (r:List Bool) (y:Int):List Bool:=if rN (nth l y) now then r else r.set y.toNat true
def visit (l:List j8) (now:Int) (k:Nat) (r:List Bool) (o:j8):List Bool:=if !(nth r (k:Int)) || (rN o now&&decide ((k:Int) > 0)) then r else (uk l (k:Int)).foldl (Dt l now) r
def BH (l:List j8) (now:Int) (r:List Bool):List Bool:=foldI (visit l now) 0 r l
def yG (l:List j8) (now:Int):Nat→List Bool→List Bool
  | 0,r=>r
  | n+1,r=>yG l now n (BH l now r)
def reach (l:List j8) (now:Int):List Bool:=if sk l then yG l now 10 ((List.replicate 10 false).set 0 true) else []
theorem HL (l:List j8) (now:Int) (r:List Bool) (y:Int):(Dt l now r y).length=r.length:=by unfold Dt;split<;>simp
theorem J0 (l:List j8) (now:Int):∀ (e:List Int) (r:List Bool),(e.foldl (Dt l now) r).length=r.length
  | [],r=>rfl
  | y::e,r=>by rw [List.foldl_cons,J0 l now e,HL]
theorem Dr (l:List j8) (now:Int) (k:Nat) (r:List Bool) (o:j8):(visit l now k r o).length=r.length:=by
  unfold visit;split
  · rfl
  · exact J0 _ _ _ _
theorem Sj (l:List j8) (now:Int) (r:List Bool) (y:Int):Fj r (Dt l now r y):=by
  unfold Dt;split
  · exact fun _ h=>h
  · exact Me
theorem HT (l:List j8) (now:Int):∀ (e:List Int) (r:List Bool),Fj r (e.foldl (Dt l now) r)
  | [],r=>fun _ h=>h
  | y::e,r=>fun k hk=>HT l now e _ k (Sj l now r y k hk)
theorem JS (l:List j8) (now:Int) (k:Nat) (r:List Bool) (o:j8):Fj r (visit l now k r o):=by
  unfold visit;split
  · exact fun _ h=>h
  · exact HT _ _ _ _
theorem I9 (l:List j8) (now:Int):∀ (e:List Int) (r:List Bool),(∀ y,y ∈ e→y.toNat<r.length)→∀ y,y ∈ e→rN (nth l y) now=false→(e.foldl (Dt l now) r)[y.toNat]?=some true
  | z::e,r,hr,y,hy,hx=>by
    rw [List.foldl_cons]
    rcases List.mem_cons.1 hy with rfl | hy
    · refine HT l now e _ _ ?_;unfold Dt;rw [if_neg (by simp [hx]),List.getElem?_set_self (hr y (by simp))]
    · exact I9 l now e _ (fun x h=>by rw [HL];exact hr x (by simp [h])) y hy hx
def Cb (l:List j8) (now:Int) (r:List Bool):Prop:=∀ k:Nat,r[k]?=some true→Reaches l now (k:Int)
theorem Kp {l:List j8} {now i:Int} (hi:Reaches l now i):∀ (e:List Int) (r:List Bool),(∀ y,y ∈ e→y ∈ uk l i)→Cb l now r→Cb l now (e.foldl (Dt l now) r)
  | [],r,_,h=>h
  | y::e,r,he,h=>by
    rw [List.foldl_cons];refine Kp hi e _ (fun x hx=>he x (by simp [hx])) ?_;unfold Dt;split
    · exact h
    · rename_i hx;intro k hk
      rcases setAt hk with q | q
      · have hy:=he y (by simp);have:=Dn hy
        have e:(k:Int)=y:=by omega
        rw [e];exact .step hi hy (by simpa using hx)
      · exact h k q
theorem Gh {r:List Bool} {k:Nat}:nth r (k:Int)=true ↔ r[k]?=some true:=by
  unfold nth;rw [Int.toNat_natCast]
  cases h:r[k]? with
  | none=>simp;try rfl
  | some b=>simp
theorem Fg {l:List j8} {now:Int} {k:Nat} {r:List Bool} {o:j8} (h:Cb l now r):Cb l now (visit l now k r o):=by
  unfold visit;split
  · exact h
  · rename_i hc;simp only [Bool.or_eq_true,Bool.not_eq_true',not_or,Bool.not_eq_false] at hc;exact Kp (h k (Gh.1 hc.1)) _ _ (fun _ hy=>hy) h
theorem DF {l:List j8} {now:Int}:∀ (m:List j8) (k:Nat) (r:List Bool),Cb l now r→(foldI (visit l now) k r m).length=r.length∧Fj r (foldI (visit l now) k r m)∧Cb l now (foldI (visit l now) k r m)
  | [],k,r,h=>⟨rfl,fun _ h=>h,h⟩
  | o::m,k,r,h=>by
    obtain ⟨h1,h2,h3⟩:=DF m (k+1) (visit l now k r o) (Fg h);exact ⟨by unfold foldI;rw [h1,Dr],fun j hj=>h2 j (JS l now k r o j hj),h3⟩
def GC (l:List j8) (now:Int) (r q:List Bool):Prop:=∀ i:Nat,r[i]?=some true→∀ y,y ∈ uk l (i:Int)→rN (nth l y) now=false→q[y.toNat]?=some true
theorem Mg {l:List j8} {now:Int} (h:Ar l) {k:Int} (hr:Reaches l now k) (hk:k ≠ 0):rN (nth l k) now=false:=by
  cases hr with
  | root=>exact absurd rfl hk
  | step _ _ h3=>exact h3
theorem H8 {l:List j8} {now:Int} (h:Ar l):∀ (m:List j8) (k:Nat) (r q:List Bool),(∀ j:Nat,m[j]?=l[k+j]?)→r.length=10→Cb l now r→Fj q r→∀ i:Nat,k≤i→q[i]?=some true→∀ y,y ∈ uk l (i:Int)→rN (nth l y) now=false→(foldI (visit l now) k r m)[y.toNat]?=some true
  | [],k,r,q,hm,hr,hs,hq,i,hi,hqi,y,hy,hx=>by
    have:=(hs i (hq i hqi)).FV h;have h2:=hm (i - k);rw [show k+(i - k)=i by omega] at h2;have:=h.len;rw [List.getElem?_eq_getElem (show i<l.length by omega)] at h2;simp at h2
  | o::m,k,r,q,hm,hr,hs,hq,i,hi,hqi,y,hy,hx=>by
    have ho:l[k]?=some o:=by have:=hm 0;simpa using this.symm
    unfold foldI
    rcases Nat.eq_or_lt_of_le hi with e | hlt
    · subst e;refine (DF m (k+1) _ (Fg hs)).2.1 _ ?_;have hk:nth r (k:Int)=true:=Gh.2 (hq k hqi)
      have hn:(rN o now&&decide ((k:Int) > 0))=false:=by
        by_cases h0:k=0
        · subst h0;simp
        · have:=Mg h (hs k (hq k hqi)) (by omega);rw [JO ho] at this;simp [this]
      unfold visit;rw [if_neg (by rw [hk,hn];decide)];exact I9 l now _ r (fun z hz=>by have:=Dn hz;have:=h.len;omega) y hy hx
    · exact H8 h m (k+1) (visit l now k r o) q (fun j=>by have:=hm (j+1);rw [show k+1+j=k+(j+1) by omega, ← this];rfl) (by rw [Dr,hr]) (Fg hs) (fun j hj=>JS l now k r o j (hq j hj)) i hlt hqi y hy hx
theorem EP {l:List j8} {now:Int} (h:Ar l):∀ (n:Nat) (r:List Bool),r.length=10→Cb l now r→(yG l now n r).length=10∧Fj r (yG l now n r)∧Cb l now (yG l now n r)∧(AE r<n→GC l now (yG l now n r) (yG l now n r))
  | 0,r,hr,hs=>⟨hr,fun _ h=>h,hs,fun h=>by omega⟩
  | n+1,r,hr,hs=>by
    obtain ⟨p1,p2,p3⟩:=DF (l:=l) (now:=now) l 0 r hs;have p4:=fun i hi=>H8 h l 0 r r (fun j=>by rw [Nat.zero_add]) hr hs (fun _ h=>h) i (Nat.zero_le _) hi;obtain ⟨q1,q2,q3,q4⟩:=EP h n (BH l now r) (by unfold BH;rw [p1,hr]) p3;refine ⟨q1,fun k hk=>q2 k (p2 k hk),q3,fun hc=>?_⟩
    by_cases hcl:AE (BH l now r)<n
    · exact q4 hcl
    · have e:r=BH l now r:=Ka p1.symm p2 (by omega)
      have fix:∀ m,yG l now m r=r:=by
        intro m
        induction m with
        | zero=>rfl
        | succ m ih=>unfold yG;rw [← e,ih]
      rw [fix (n+1)];intro i hi y hy hx;have:=p4 i hi y hy hx
      rwa [show foldI (visit l now) 0 r l=r from e.symm] at this
def Qz (l:List j8) (now:Int) (r:List Bool):Prop:=r.length=10∧∀ k:Nat,r[k]?=some true ↔ Reaches l now (k:Int)
theorem Pd {l:List j8} {now:Int} (h:Ar l) {r:List Bool} (hl:r.length=10) (hs:Cb l now r) (h0:r[0]?=some true) (hc:GC l now r r):Qz l now r:=by
  refine ⟨hl,fun k=>⟨hs k,fun hr=>?_⟩⟩
  have key:∀ j:Int,Reaches l now j→r[j.toNat]?=some true:=by
    intro j hj
    induction hj with
    | root=>exact h0
    | step h1 h2 h3 ih =>
      rename_i i k;have:=(Reaches.FV h h1);refine hc i.toNat ih k ?_ h3
      rwa [show ((i.toNat:Nat):Int)=i by omega]
  simpa using key k hr
theorem SU {l:List j8} {now:Int} {r q:List Bool} (h1:Qz l now r) (h2:Qz l now q):r=q:=by
  apply List.ext_getElem? fun k=>?_
  rcases Nat.lt_or_ge k 10 with hk | hk
  · have e:r[k]?=some true ↔ q[k]?=some true:=(h1.2 k).trans (h2.2 k).symm;rw [List.getElem?_eq_getElem (by rw [h1.1];exact hk),List.getElem?_eq_getElem (by rw [h2.1];exact hk)] at e ⊢;generalize r[k]'(by rw [h1.1];exact hk)=a at *;generalize q[k]'(by rw [h2.1];exact hk)=b at *;cases a<;>cases b<;>simp_all
  · rw [List.getElem?_eq_none (by rw [h1.1];exact hk),List.getElem?_eq_none (by rw [h2.1];exact hk)]
theorem N6 (l:List j8) (now:Int):Cb l now ((List.replicate 10 false).set 0 true):=fun k hk=>by
  rcases setAt hk with q | q
  · subst q;exact .root
  · rw [List.getElem?_replicate] at q;split at q<;>simp at q
theorem JK {l:List j8} (h:Ar l) (now:Int):Qz l now (reach l now):=by
  unfold reach;rw [if_pos (sG.2 h)];obtain ⟨q1,q2,q3,q4⟩:=EP (now:=now) h 10 ((List.replicate 10 false).set 0 true) rfl (N6 l now);exact Pd h q1 q3 (q2 0 rfl) (q4 (by decide))
theorem xF {l:List j8} (h:Ar l) (now:Int):(reach l now).length=10:=(JK h now).1
theorem Fc {l:List j8} {now:Int}:∀ (m:List j8) (k:Nat) (r:List Bool),(foldI (visit l now) k r m).length=r.length
  | [],k,r=>rfl
  | o::m,k,r=>by unfold foldI;rw [Fc m,Dr]
theorem Rp {N:Nat} (hN:pW≤N) {l:List j8} (h:Ar l) {now:Int} {e:List Int} (he:∀ y,y ∈ e→0≤y∧y≤9) (hl:e.length≤10) {r:List Bool} (hr:r.length=10) :
    iter (fun (s67:(List Bool)×Int)=>(bif (decide (s67.2<(e.length:Int))) then ((idx e s67.2).bind fun y70=>(idx l y70).bind fun y83=>bif (!(rN y83 now)) then ((idx s67.1 y70).bind fun y104=>some (.inl (s67.1.set (y70:Int).toNat true,i64.wrap (s67.2+1)))) else (some (.inl (s67.1,i64.wrap (s67.2+1))))) else (some (.inr (s67.1,s67.2))):Option (((List Bool)×Int)⊕((List Bool)×Int)))) N (r,0)=some (e.foldl (Dt l now) r,(e.length:Int)):=by
  have hB:e.length<pW:=Nat.lt_of_le_of_lt hl (by decide)
  rw [show (r,(0:Int))=(fun (k:Nat) (t:List Bool)=>(t,(k:Int))) 0 r from rfl,
    sC e (fun (k:Nat) (t:List Bool)=>(t,(k:Int))) (fun _ t y=>Dt l now t y) (fun t=>(t,(e.length:Int))) (fun _ t=>t.length=10) ?_ ?_ (Nat.lt_of_lt_of_le hB hN) hr,tJ]
  · intro k t y hy hk ht;obtain ⟨y0,y9⟩:=he y (List.mem_of_getElem? hy);refine ⟨?_,by rw [HL,ht]⟩;simp only [qQ hk,Vy,qv,hy,Vw,(h.at y0 y9).1,BT,qV (Nat.lt_trans hk hB),ri (l:=t) y0 (by omega)];unfold Dt;cases rN (nth l y) now<;>rfl
  · intro t _;simp only [qR,Vx]
theorem Bk {l:List j8} (h:Ar l) (i:Int):(∀ y,y ∈ uk l i→0≤y∧y≤9)∧(uk l i).length≤10:=by
  have:=h.len;refine ⟨fun y hy=>by have:=Dn hy;omega,by have:=OW l i;omega⟩
theorem L6 {N:Nat} (hN:pW≤N) {l:List j8} (hb:qU qf l<pW) (hw:wA l) (now:Int):AL N l now=some (reach l now):=by
  unfold AL reach;rw [yS hN hb hw,Vw];cases ha:sk l
  · rfl
  have h:=sG.1 ha;have hB:=h.DG;simp only [Vz,Vx,if_true];rw [show mk Bool 10=some (List.replicate 10 false) from rfl];simp only [Vw];rw [show idx (List.replicate 10 false) 0=some false from rfl];simp only [Vw]
  have hin:∀ r:List Bool,r.length=10→iter (fun (s21:(List Bool)×Int)=>(bif (decide (s21.2<(l.length:Int))) then (((idx s21.1 s21.2).bind fun y26=>bif (!y26) then (some true) else ((idx l s21.2).bind fun y40=>(uo N y40 now).bind fun y58=>bif y58 then (some (decide (s21.2 > 0))) else (some false)):Option Bool).bind fun j24=>bif j24 then (some (.inl (s21.1,i64.wrap (s21.2+1)))) else ((zf N l s21.2).bind fun y63=>(iter (fun (s67:(List Bool)×Int)=>(bif (decide (s67.2<(y63.length:Int))) then ((idx y63 s67.2).bind fun y70=>(idx l y70).bind fun y83=>(uo N y83 now).bind fun y101=>bif (!y101) then ((idx s67.1 y70).bind fun y104=>some (.inl (s67.1.set (y70:Int).toNat true,i64.wrap (s67.2+1)))) else (some (.inl (s67.1,i64.wrap (s67.2+1))))) else (some (.inr (s67.1,s67.2))):Option (((List Bool)×Int)⊕((List Bool)×Int)))) N (s21.1,0)).bind fun o111=>some (.inl (o111.1,i64.wrap (s21.2+1))))) else (some (.inr (s21.1,s21.2))):Option (((List Bool)×Int)⊕((List Bool)×Int)))) N (r,0)=some (BH l now r,(l.length:Int)):=by
    intro r hr
    rw [show (r,(0:Int))=(fun (k:Nat) (t:List Bool)=>(t,(k:Int))) 0 r from rfl,
      sC l (fun (k:Nat) (t:List Bool)=>(t,(k:Int))) (fun k t y=>visit l now k t y) (fun t=>(t,(l.length:Int))) (fun _ t=>t.length=10) ?_ ?_ (Nat.lt_of_lt_of_le hB hN) hr]
    · rfl
    · intro k t y hy hk ht
      have hk10:k<10:=by rw [← h.len];exact hk
      refine ⟨?_,by rw [Dr,ht]⟩;simp only [qQ hk,Vy];rw [ri (l:=t) (i:=(k:Int)) (by omega) (by omega)];simp only [qv,hy,Vw,BT,qV (Nat.lt_trans hk hB)];rw [L5 hN hb hw h (i:=(k:Int)) (by omega) (by omega),Vw,Rp hN h (Bk h _).1 (Bk h _).2 ht];unfold visit;cases nth t (k:Int)<;>cases rN y now<;>cases decide ((k:Int) > 0)<;>rfl
    · intro t _;simp only [qR,Vx]
  have hout:∀ (n:Nat) (j:Nat) (r:List Bool),r.length=10→foldI (fun _ t (_:Unit)=>BH l now t) j r (List.replicate n ())=yG l now n r:=by
    intro n
    induction n with
    | zero=>intro j r _;rfl
    | succ n ih=>intro j r hr;rw [List.replicate_succ];unfold foldI yG;exact ih _ _ (by
        have:=Fc (l:=l) (now:=now) l 0 r
        unfold BH;rw [this,hr])
  rw [show (((List.replicate 10 false).set (0:Int).toNat true,(0:Int)):List Bool×Int)=(fun (k:Nat) (t:List Bool)=>(t,(k:Int))) 0 ((List.replicate 10 false).set 0 true) from rfl,
    sC (List.replicate 10 ()) (fun (k:Nat) (t:List Bool)=>(t,(k:Int))) (fun _ t _=>BH l now t) (fun t=>(t,(10:Int))) (fun _ t=>t.length=10) ?_ ?_ (R9 (k:=0) hN (by decide)) rfl,hout 10 0 _ rfl]
  · rfl
  · intro k t y hy hk ht
    have hk:k<10:=by simpa using hk
    refine ⟨?_,by have:=Fc (l:=l) (now:=now) l 0 t;unfold BH;rw [this,ht]⟩
    have h3:decide ((k:Int)<10)=true:=by simp;omega
    simp only [h3,Vy];rw [hin t ht];simp only [Vw,qV (show k<pW from Nat.lt_trans hk (by decide))]
  · intro t _;rfl
def push (l:List j8) (now:Int) (s:List Bool×List Int) (y:Int):List Bool×List Int:=if !(nth s.1 y)&&!rN (nth l y) now then (s.1.set y.toNat true,s.2++[y]) else s
theorem HX {r:List Bool} {y:Int} (h0:0≤y):nth r y=true ↔ r[y.toNat]?=some true:=by
  have:=Gh (r:=r) (k:=y.toNat)
  rwa [show ((y.toNat:Nat):Int)=y by omega] at this
theorem Ej {l:List j8} {now i:Int} (hi:Reaches l now i):∀ (e:List Int) (s:List Bool×List Int),(∀ y,y ∈ e→y ∈ uk l i∧0≤y∧y≤9)→s.1.length=10→Cb l now s.1 →
    let z:=e.foldl (push l now) s
    z.1.length=10∧Cb l now z.1∧Fj s.1 z.1∧z.2.length+AE z.1=s.2.length+AE s.1∧(∀ y,y ∈ e→rN (nth l y) now=false→z.1[y.toNat]?=some true)∧(∀ y,y ∈ s.2→y ∈ z.2) ∧
      (∀ y,y ∈ z.2→y ∈ s.2∨(0≤y∧z.1[y.toNat]?=some true))∧(∀ k:Nat,z.1[k]?=some true→s.1[k]?=some true∨(k:Int) ∈ z.2)
  | [],s,_,h1,h2=>⟨h1,h2,fun _ h=>h,rfl,fun _ h=>absurd h (by simp),fun _ h=>h,fun _ h=>.inl h,fun _ h=>.inl h⟩
  | y::e,s,he,h1,h2=>by
    obtain ⟨e1,e2,e3⟩:=he y (by simp)
    have hlt:y.toNat<s.1.length:=by omega
    simp only [List.foldl_cons]
    by_cases hc:(!(nth s.1 y)&&!rN (nth l y) now)=true
    · have hp:push l now s y=(s.1.set y.toNat true,s.2++[y]):=by unfold push;rw [if_pos hc]
      simp only [VB,Bool.not_eq_true'] at hc
      have hf:s.1[y.toNat]?=some false:=by
        have:¬ s.1[y.toNat]?=some true:=fun q=>by rw [(HX e2).2 q] at hc;simp at hc
        rw [List.getElem?_eq_getElem hlt] at this ⊢;cases hb:s.1[y.toNat]<;>simp_all
      have hs:Cb l now (s.1.set y.toNat true):=fun k hk=>by
        rcases setAt hk with q | q
        · have e:(k:Int)=y:=by omega
          rw [e];exact .step hi e1 hc.2
        · exact h2 k q
      rw [hp];obtain ⟨a1,a2,a3,a4,a5,a6,a7,a8⟩:=Ej hi e (s.1.set y.toNat true,s.2++[y]) (fun x hx=>he x (by simp [hx])) (by simpa using h1) hs;have hy:(e.foldl (push l now) (s.1.set y.toNat true,s.2++[y])).1[y.toNat]?=some true:=a3 _ (List.getElem?_set_self hlt);refine ⟨a1,a2,fun k hk=>a3 k (Me k hk),?_,fun x hx hxx=>?_,fun x hx=>a6 x (by simp [hx]),fun x hx=>?_,fun k hk=>?_⟩
      · have:=LQ hf;simp only [List.length_append,List.length_cons,List.length_nil] at a4;omega
      · rcases List.mem_cons.1 hx with rfl | hx
        · exact hy
        · exact a5 x hx hxx
      · rcases a7 x hx with q | q
        · rcases List.mem_append.1 q with q | q
          · exact .inl q
          · simp at q;subst q;exact .inr ⟨e2,hy⟩
        · exact .inr q
      · rcases a8 k hk with q | q
        · rcases setAt q with q | q
          · refine .inr (a6 (k:Int) ?_)
            have e:(k:Int)=y:=by omega
            simp [e]
          · exact .inl q
        · exact .inr q
    · have hp:push l now s y=s:=by unfold push;rw [if_neg hc]
      rw [hp];obtain ⟨a1,a2,a3,a4,a5,a6,a7,a8⟩:=Ej hi e s (fun x hx=>he x (by simp [hx])) h1 h2;refine ⟨a1,a2,a3,a4,fun x hx hxx=>?_,a6,a7,a8⟩
      rcases List.mem_cons.1 hx with rfl | hx
      · refine a3 _ ((HX e2).1 ?_);cases hn:nth s.1 x
        · exact absurd (show (!(nth s.1 x)&&!rN (nth l x) now)=true by simp [hn,hxx]) hc
        · rfl
      · exact a5 x hx hxx
theorem H7 (l:List j8) (now:Int):∀ (e:List Int) (s:List Bool×List Int),s.2.length≤(e.foldl (push l now) s).2.length
  | [],s=>Nat.le_refl _
  | y::e,s=>by
    rw [List.foldl_cons];refine Nat.le_trans ?_ (H7 l now e _);unfold push;split<;>simp
theorem Px {N:Nat} (hN:pW≤N) {l:List j8} (h:Ar l) {now:Int} {e:List Int} (he:∀ y,y ∈ e→0≤y∧y≤9) (hl:e.length≤10) {r:List Bool} (hr:r.length=10) {t:List Int} (ht:t.length≤100) :
    iter (fun (s45:(List Bool)×(List Int)×Int)=>(bif (decide (s45.2.2<(e.length:Int))) then ((idx e s45.2.2).bind fun y48=>((idx s45.1 y48).bind fun y63=>bif (!y63) then ((idx l y48).bind fun y77=>(uX N y77 now).bind fun y95=>some (!y95)) else (some false):Option Bool).bind fun j61=>bif j61 then ((idx s45.1 y48).bind fun y99=>(app s45.2.1 [y48]).bind fun y106=>some (.inl (s45.1.set (y48:Int).toNat true,y106,i64.wrap (s45.2.2+1)))) else (some (.inl (s45.1,s45.2.1,i64.wrap (s45.2.2+1))))) else (some (.inr (s45.1,s45.2.1,s45.2.2))):Option (((List Bool)×(List Int)×Int)⊕((List Bool)×(List Int)×Int)))) N (r,t,0) =
      some ((e.foldl (push l now) (r,t)).1,(e.foldl (push l now) (r,t)).2,(e.length:Int)):=by
  have hB:e.length<pW:=Nat.lt_of_le_of_lt hl (by decide)
  rw [show (r,t,(0:Int))=(fun (k:Nat) (s:List Bool×List Int)=>(s.1,s.2,(k:Int))) 0 (r,t) from rfl,
    sC e (fun (k:Nat) (s:List Bool×List Int)=>(s.1,s.2,(k:Int))) (fun _ s y=>push l now s y) (fun s=>(s.1,s.2,(e.length:Int))) (fun k s=>s.1.length=10∧s.2.length≤100+k) ?_ ?_ (Nat.lt_of_lt_of_le hB hN) ⟨hr,ht⟩,tJ]
  · intro k s y hy hk ⟨i1,i2⟩;obtain ⟨y0,y9⟩:=he y (List.mem_of_getElem? hy)
    refine ⟨?_,by
      unfold push;split
      · simp only [List.length_set,List.length_append,List.length_cons,List.length_nil];omega
      · omega⟩
    have hkB:100+k+1<pW:=by have:(16777216:Nat)=pW:=rfl;omega
    simp only [qQ hk,Vy,qv,hy,Vw,(h.at y0 y9).1,Dk,qV (Nat.lt_trans hk hB),ri (l:=s.1) y0 (by omega),tQ i2 hkB,tz];unfold push;cases (!(nth s.1 y)&&!rN (nth l y) now)<;>rfl
  · intro s _;simp only [qR,Vx]
theorem L8 {N:Nat} (hN:pW≤N) {l:List j8} (hb:qU qf l<pW) (now:Int):Av N l now=some (reach l now):=by
  unfold Av;rw [BY hN hb,Vw];cases ha:sk l
  · unfold reach;rw [ha];rfl
  have h:=sG.1 ha;simp only [Vz,Vx];rw [show mk Bool 10=some (List.replicate 10 false) from rfl];simp only [Vw];rw [show idx (List.replicate 10 false) 0=some false from rfl];simp only [Vw]
  obtain ⟨z,hz,hz1,hz2,hz3,hz4⟩:=Jr (body:=fun (s18:(List Bool)×(List Int))=>(bif (decide ((s18.2.length:Int) > 0)) then ((idx s18.2 0).bind fun y21=>(sub s18.2 1 (s18.2.length:Int)).bind fun y34=>(xa N l y21).bind fun y41=>(iter (fun (s45:(List Bool)×(List Int)×Int)=>(bif (decide (s45.2.2<(y41.length:Int))) then ((idx y41 s45.2.2).bind fun y48=>((idx s45.1 y48).bind fun y63=>bif (!y63) then ((idx l y48).bind fun y77=>(uX N y77 now).bind fun y95=>some (!y95)) else (some false):Option Bool).bind fun j61=>bif j61 then ((idx s45.1 y48).bind fun y99=>(app s45.2.1 [y48]).bind fun y106=>some (.inl (s45.1.set (y48:Int).toNat true,y106,i64.wrap (s45.2.2+1)))) else (some (.inl (s45.1,s45.2.1,i64.wrap (s45.2.2+1))))) else (some (.inr (s45.1,s45.2.1,s45.2.2))):Option (((List Bool)×(List Int)×Int)⊕((List Bool)×(List Int)×Int)))) N (s18.1,y34,0)).bind fun o111=>some (.inl (o111.1,o111.2.1))) else (some (.inr (s18.1,s18.2))):Option (((List Bool)×(List Int))⊕((List Bool)×(List Int)))))
    (fun s=>s.2.length+2 * AE s.1)
    (fun s=>s.1.length=10∧Cb l now s.1∧s.1[0]?=some true∧s.2.length+AE s.1≤10∧(∀ y,y ∈ s.2→0≤y∧s.1[y.toNat]?=some true)∧∀ i:Nat,s.1[i]?=some true→(i:Int) ∈ s.2∨∀ y,y ∈ uk l (i:Int)→rN (nth l y) now=false→s.1[y.toNat]?=some true)
    (fun s=>s.1.length=10∧Cb l now s.1∧s.1[0]?=some true∧GC l now s.1 s.1)
    (fun s hI=>by
      obtain ⟨r,t⟩:=s;obtain ⟨i1,i2,i3,i4,i5,i6⟩:=hI;simp only at i1 i2 i3 i4 i5 i6
      cases t with
      | nil=>exact .inr ⟨(r,[]),rfl,i1,i2,i3,fun i hi=>by have:=i6 i hi;simpa using this⟩
      | cons x t =>
        left;obtain ⟨x0,xr⟩:=i5 x (by simp)
        have hx:Reaches l now x:=by have:=i2 x.toNat xr;rwa [show ((x.toNat:Nat):Int)=x by omega] at this
        obtain ⟨_,x9⟩:=hx.FV h
        have hsub:sub (x::t) 1 ((x::t).length:Int)=some t:=by
          unfold sub;rw [if_pos ⟨by omega,by simp only [List.length_cons];omega,Int.le_refl _⟩];simp
        obtain ⟨e1,e2⟩:=Bk h x
        have hpos:decide (((x::t).length:Int) > 0)=true:=by simp
        obtain ⟨a1,a2,a3,a4,a5,a6,a7,a8⟩:=Ej hx (uk l x) (r,t) (fun y hy=>⟨hy,e1 y hy⟩) i1 i2;simp only [List.length_cons] at i4;refine ⟨(uk l x).foldl (push l now) (r,t),?_,⟨a1,a2,a3 0 i3,by simp only at a4;omega,fun y hy=>?_,fun i hi=>?_⟩,?_⟩
        · simp only [hpos,Vy];rw [show idx (x::t) 0=some x from rfl];simp only [Vw,hsub];rw [HV hN h x0 x9,Vw,Px hN h e1 e2 i1 (by omega)];rfl
        · rcases a7 y hy with q | q
          · obtain ⟨q1,q2⟩:=i5 y (by simp [show y ∈ t from q]);exact ⟨q1,a3 _ q2⟩
          · exact q
        · rcases a8 i hi with q | q
          · rcases i6 i q with q | q
            · rcases List.mem_cons.1 q with q | q
              · rw [q];exact .inr a5
              · exact .inl (a6 _ q)
            · exact .inr fun y hy hyx=>a3 _ (q y hy hyx)
          · exact .inl q
        · simp only [List.length_cons] at a4 ⊢
          have hle:AE ((uk l x).foldl (push l now) (r,t)).1≤AE r:=by
            have:t.length≤((uk l x).foldl (push l now) (r,t)).2.length:=H7 l now (uk l x) (r,t);omega
          omega)
    N ((List.replicate 10 false).set 0 true,[0]) ⟨rfl,N6 l now,rfl,by decide,fun y hy=>by simp at hy;subst hy;exact ⟨by decide,rfl⟩,fun i hi=>by
      rcases setAt hi with q | q
      · subst q;exact .inl (by simp)
      · rw [List.getElem?_replicate] at q;split at q<;>simp at q⟩ (by have:16777216≤N:=hN;simp only [show AE ((List.replicate 10 false).set 0 true)=9 from rfl,List.length_cons,List.length_nil];omega)
  rw [show ((List.replicate 10 false).set (0:Int).toNat true)=(List.replicate 10 false).set 0 true from rfl,hz,Vw];exact congrArg some (SU (Pd h hz1 hz2 hz3 hz4) (JK h now))
theorem vf {h:qd} (q:sK h=true):Ar h.ag:=by
  unfold sK at q;simp only [VB] at q;exact sG.1 q.1
def threads (p:cd) (now:Int):List Int:=if rF p then uW (fun k b=>b&&((nth p.U7.ag (k:Int)).Vc==4)) (fun k _=>(k:Int)) 0 (reach p.U7.ag now) else []
theorem sg {p:cd} (h:rF p=true):Ar p.U7.ag:=by
  unfold rF sK at h;simp only [VB] at h;exact sG.1 h.2.2.2.1.1
theorem u7 {p:cd} {now k:Int} (h:k ∈ threads p now):rF p=true∧0≤k∧k≤9:=by
  unfold threads at h;split at h
  · rename_i hp;obtain ⟨j,b,h1,_,h3⟩:=Dw.1 h;have:=rD h1;rw [xF (sg hp)] at this;have h3:k=((0+j:Nat):Int):=h3;exact ⟨hp,by omega,by omega⟩
  · simp at h
theorem FW {N:Nat} (hN:pW≤N) {l:List j8} (h:Ar l) {now:Int} {body:List Int×Int→Option ((List Int×Int)⊕(List Int×Int))}
    (hs:∀ (k:Nat) (t:List Int) (b:Bool),(reach l now)[k]?=some b→k<10→t.length≤k→body (t,(k:Int))=some (.inl (if b&&((nth l (k:Int)).Vc==4) then t++[(k:Int)] else t,((k+1:Nat):Int))))
    (he:∀ t,body (t,10)=some (.inr (t,10))):iter body N ([],0)=some (uW (fun k b=>b&&((nth l (k:Int)).Vc==4)) (fun k _=>(k:Int)) 0 (reach l now),10):=by
  have hl:=xF h now
  have e:((reach l now).length:Int)=10:=by omega
  rw [wK (reach l now) (fun k b=>b&&((nth l (k:Int)).Vc==4)) (fun k _=>(k:Int)) (by rw [hl];decide) hN,e]
  · intro k t b hb hk ht;exact hs k t b hb (by omega) ht
  · intro t;rw [e];exact he t
theorem EV {N:Nat} (hN:pW≤N) {p:cd} (hb:qh p<pW) (now:Int):xb N p now=some (threads p now):=by
  unfold xb threads;rw [Ac hN hb,Vw];cases hp:rF p
  · rfl
  have h:=sg hp;have hl:=xF h now;simp only [Vz,Vx,L8 hN (sm hb).2.2.2.1,Vw,if_true];rw [FW hN h]
  · rfl
  · intro k t b hy hk ht
    have hd:decide ((k:Int)<((reach p.U7.ag now).length:Int))=true:=by simp;omega
    simp only [hd,Vy];rw [(h.at (i:=(k:Int)) (by omega) (by omega)).1];simp only [qv,hy,Vw,tz,qV (show k<pW from Nat.lt_trans hk (by decide)),tQ ht (show k+1<pW from Nat.lt_trans (Nat.succ_lt_succ hk) (by decide))];cases (b&&((nth p.U7.ag (k:Int)).Vc==4))<;>rfl
  · intro t;simp only [hl];rfl
theorem EE {N:Nat} (hN:pW≤N) {p:cd} (hb:qh p<pW) (hw:wP p) (now:Int):wZ N p now=some (threads p now):=by
  unfold wZ threads;rw [Ag hN hb hw,Vw];cases hp:rF p
  · rfl
  have h:=sg hp;have hl:=xF h now;simp only [Vz,Vx,L6 hN (sm hb).2.2.2.1 hw,Vw,if_true];rw [FW hN h]
  · rfl
  · intro k t b hy hk ht
    have hd:decide ((k:Int)<((reach p.U7.ag now).length:Int))=true:=by simp;omega
    simp only [hd,Vy];rw [(h.at (i:=(k:Int)) (by omega) (by omega)).1];simp only [qv,hy,Vw,tz,qV (show k<pW from Nat.lt_trans hk (by decide)),tQ ht (show k+1<pW from Nat.lt_trans (Nat.succ_lt_succ hk) (by decide))];cases (b&&((nth p.U7.ag (k:Int)).Vc==4))<;>rfl
  · intro t;simp only [hl];rfl
theorem yn (p:cd) (now:Int):(threads p now).length<pW:=by
  unfold threads;split
  · rename_i hp;refine Nat.lt_of_le_of_lt (Ds _ _ _ _) ?_;rw [xF (sg hp)];decide
  · decide
def uT (p:cd) (now:Int) (th:Int):Bool:=(threads p now).contains th&&((nth p.U7.ag th).Vl==0)
theorem Io {N:Nat} (hN:pW≤N) {p:cd} (hb:qh p<pW) (now th:Int):yt N p now th=some (uT p now th):=by
  unfold yt uT;simp only [EV hN hb,Vw,A8 hN (yn p now)];cases hc:(threads p now).contains th
  · rfl
  · obtain ⟨h1,h2,h3⟩:=u7 (List.contains_iff_mem.1 hc);simp only [Vy,((sg h1).at h2 h3).1,Vw,VA]
theorem It {N:Nat} (hN:pW≤N) {p:cd} (hb:qh p<pW) (hw:wP p) (now th:Int):yq N p now th=some (uT p now th):=by
  unfold yq uT;simp only [EE hN hb hw,Vw,DS hN (yn p now)];cases hc:(threads p now).contains th
  · rfl
  · obtain ⟨h1,h2,h3⟩:=u7 (List.contains_iff_mem.1 hc);simp only [Vy,((sg h1).at h2 h3).1,Vw,VA]
end Go.Kx
namespace Go.Kx
open Go
open Go.IntKind (i64)
set_option linter.unusedVariables false
set_option linter.unusedSimpArgs false
set_option maxRecDepth 10000
theorem HP {α:Type} {f:α→Nat} {c:Nat}:∀ {l:List α},(∀ y,y ∈ l→f y≤c)→qb f l≤c * l.length
  | [],_=>Nat.zero_le _
  | y::l,h=>by
    have h1:=h y (by simp);have h2:=HP (l:=l) fun z hz=>h z (by simp [hz]);simp only [qb,List.length_cons,Nat.mul_add];omega
theorem JY {α:Type} {f:α→Nat} {y:α}:∀ {l:List α} {k:Nat},qb f (l.set k y)≤qb f l+f y
  | [],k=>by simp [qb]
  | z::l,0=>by simp only [List.set_cons_zero,qb];omega
  | z::l,k+1=>by
    have:=JY (f:=f) (y:=y) (l:=l) (k:=k);simp only [List.set_cons_succ,qb];omega
theorem Bh {α:Type} {f:α→Nat} {y:α} {l:List α} {k:Nat}:qU f (l.set k y)≤qU f l+f y:=by
  have:=JY (f:=f) (y:=y) (l:=l) (k:=k);unfold qU;simp only [List.length_set];omega
theorem Ep {o:j8} (h:sB o=true):qf o≤12:=by
  have hl:=(BE h).1;unfold sB at h;unfold qf;cases hk:o.Vc==0
  · simp only [hk,Vx,VB] at h;obtain ⟨_,_,_,_,_,hp,hl2,_⟩:=h;unfold Al at hl2;simp only [VB,decide_eq_true_eq,beq_iff_eq] at hl2;obtain ⟨_,_,_,_,hd,hq⟩:=hl2;rw [rk] at hp
    have:o.Vh.length≤8:=by
      cases h2:o.Vc==2
      · rw [h2] at hd;simp only [Vx] at hd;omega
      · rw [h2] at hd;simp only [Vy] at hd;omega
    have:o.Vf.length≤2:=by
      cases h3:o.Vc==3
      · rw [h3] at hq;simp only [Vx] at hq;omega
      · rw [h3] at hq;simp only [Vy] at hq;omega
    omega
  · simp only [hk,Vy,VB,decide_eq_true_eq] at h;rw [h.2.2];simp [blank]
theorem Ar.sz {l:List j8} (h:Ar l):qU qf l≤130:=by
  have h1:=HP (f:=qf) (c:=12) fun y hy=>Ep (h.ok y hy);have h2:=h.len;unfold qU;rw [h2] at h1 ⊢;omega
theorem s6 {l:List j8} {k:Nat} {o:j8} (h:wA l) (ho:wg o):wA (l.set k o):=fun y hy=>by
  rcases List.mem_or_eq_of_mem_set hy with q | q
  · exact h y q
  · rw [q];exact ho
def tH (o:j8) (g:Int):j8:=j8.mk g o.Vc o.box o.Vp o.qx o.gE o.Vl o.qw o.qq o.Vm o.pX o.Vh o.Vf
def putAt (l:List j8) (o:j8) (k:Nat) (x:j8):List j8×Int:=if sk (l.set k (tH o (i64.wrap (x.Vr+1))))&&(o.Vc != 0) then (l.set k (tH o (i64.wrap (x.Vr+1))),(k:Int)) else (l, -1)
def Cy (l:List j8) (o:j8):Nat→List j8→List j8×Int
  | _,[]=>(l, -1)
  | k,x::m=>if x.Vc != 0 || decide (x.Vr ≥ 999) then Cy l o (k+1) m else putAt l o k x
def tB (l:List j8) (o:j8):List j8×Int:=if sk l then Cy l o 1 (l.drop 1) else (l, -1)
theorem GY {l:List j8} {o:j8} (h:(o.Vc != 0)=false):∀ (m:List j8) (k:Nat),Cy l o k m=(l, -1)
  | [],k=>rfl
  | x::m,k=>by
    unfold Cy putAt;rw [h,GY h m];simp
theorem Jn {ρ:Type} {body:Int→Option (Int⊕ρ)} (l:List j8) (p:j8→Bool) (g:Nat→j8→ρ) (r:ρ) {N:Nat} (hN:l.length+1<N) (hl:1≤l.length)
    (hs:∀ (k:Nat) (x:j8),l[k]?=some x→1≤k→k<l.length→body (k:Int)=some (if p x then .inl ((k+1:Nat):Int) else .inr (g k x))) (he:body (l.length:Int)=some (.inr r)) :
    iter body N 1=some (tV (fun k (_:Unit) x=>if p x then .inl () else .inr (g (k+1) x)) (fun _=>r) 0 () (l.drop 1)):=by
  have hd:(l.drop 1).length+1=l.length:=by simp;omega
  rw [show (1:Int)=(fun (k:Nat) (_:Unit)=>((k+1:Nat):Int)) 0 () from rfl,
    vh (l.drop 1) (fun (k:Nat) (_:Unit)=>((k+1:Nat):Int)) (fun k _ x=>if p x then .inl () else .inr (g (k+1) x)) (fun _=>r) (fun _ _=>True) ?_ ?_ (by omega) trivial]
  · intro k _ x hx hk _
    have hx:l[k+1]?=some x:=by rw [← hx,List.getElem?_drop,Nat.add_comm]
    refine ⟨?_,fun _ _=>trivial⟩
    show body ((k+1:Nat):Int)=_
    rw [hs (k+1) x hx (by omega) (by omega)];cases p x<;>rfl
  · intro _ _;simp only [hd];exact he
theorem HM {ρ:Type} (l:List j8) (o:j8) (r:ρ) (c:ρ→Option (List j8×Int)) (g:Nat→j8→ρ) (hr:c r=some (l, -1)) (hg:∀ k x,c (g k x)=some (putAt l o k x)):∀ (m:List j8) (k:Nat),
    c (tV (fun k (_:Unit) x=>if x.Vc != 0 || decide (x.Vr ≥ 999) then .inl () else .inr (g (k+1) x)) (fun _=>r) k () m)=some (Cy l o (k+1) m)
  | [],k=>hr
  | x::m,k=>by
    unfold tV Cy;cases h:(x.Vc != 0 || decide (x.Vr ≥ 999))
    · simp only [Bool.false_eq_true,if_false];exact hg _ _
    · simp only [if_true];exact HM l o r c g hr hg m (k+1)
theorem Ig (o:j8) (g:Int):qf (tH o g)=qf o:=rfl
theorem Gj {o:j8} {g:Int} (h:wg o):wg (tH o g):=h
theorem PU {l:List j8} (h:Ar l) {o:j8} (ho:qf o≤100000) (k:Nat):qU qf (l.set k o)<pW:=by
  have h1:=h.sz;have h2:=Bh (f:=qf) (y:=o) (l:=l) (k:=k);have:(16777216:Nat)=pW:=rfl;omega
theorem MS {N:Nat} (hN:pW+1≤N) {l:List j8} (hb:qU qf l<pW) {o:j8} (ho:qf o≤100000):y5 N l o=some (tB l o):=by
  have hN':pW≤N:=Nat.le_of_succ_le hN;have hB:(16777216:Nat)=pW:=rfl
  have hoB:qf o<pW:=by omega
  unfold y5 tB;simp only [BC hN' hb,BY hN' hb,Vw,sA];cases ha:sk l
  · rfl
  have h:=sG.1 ha;have hl:=h.len;simp only [Vz,Bool.false_or,if_true];cases hk:(o.Vc != 0)
  · rw [GY hk]
    have:(o.Vc==0)=true:=by simpa [bne] using hk
    rw [this];rfl
  · have hk0:(o.Vc==0)=false:=by simpa [bne] using hk
    simp only [hk0,Vx];obtain ⟨M,rfl⟩:∃ M,N=M+1:=⟨N - 1,by omega⟩;have hd:∀ k:Nat,k<l.length→decide ((k:Int)<(l.length:Int))=true:=fun k hk=>qQ hk;have h0:decide ((0:Int)<(l.length:Int))=true:=hd 0 (by omega);unfold iter;simp only [h0,Vy,(h.at (i:=0) (by omega) (by omega)).1,Vw,beq_self_eq_true,Bool.true_or,show i64.wrap (0+1)=1 from by decide];rw [Jn l (fun x=>x.Vc != 0 || decide (x.Vr ≥ 999)) (fun k x=>if sk (l.set k (tH o (i64.wrap (x.Vr+1)))) then Sum.inr (l.set k (tH o (i64.wrap (x.Vr+1))),(k:Int)) else Sum.inr (l, -1)) (Sum.inl (l.length:Int)) (by omega) (by omega)]
    · simp only [Vw]
      exact HM l o (Sum.inl (l.length:Int)) (fun o73=>Sum.elim (fun o73=>some (l, -1)) (fun r76=>some r76) o73) (fun k x=>if sk (l.set k (tH o (i64.wrap (x.Vr+1)))) then Sum.inr (l.set k (tH o (i64.wrap (x.Vr+1))),(k:Int)) else Sum.inr (l, -1)) rfl (fun k x=>by
        unfold putAt;rw [hk]
        cases sk (l.set k (tH o (i64.wrap (x.Vr+1))))<;>rfl) _ 0
    · intro k x hx hk1 hkl
      have hne:((k:Int)==0)=false:=by simp;omega
      have e1:idx (l.set k o) (k:Int)=some o:=LB hkl;simp only [hd k hkl,Vy,qv,hx,Vw,hne,Vx,sA,qV (show k<pW by omega),BC hN' hb,HW hoB,Int.toNat_natCast,List.getElem?_set_self hkl,List.set_set];rw [show j8.mk (i64.wrap (x.Vr+1)) o.Vc o.box o.Vp o.qx o.gE o.Vl o.qw o.qq o.Vm o.pX o.Vh o.Vf=tH o (i64.wrap (x.Vr+1)) from rfl,BY hN' (PU h (by rw [Ig];exact ho) k)];cases (x.Vc != 0 || decide (x.Vr ≥ 999))
      · cases sk (l.set k (tH o (i64.wrap (x.Vr+1))))<;>rfl
      · rfl
    · simp only [qR,Vx]
theorem Nz {N:Nat} (hN:pW≤N) {l:List j8} (hb:qU qf l<pW) (hw:wA l) {o:j8} (ho:qf o≤100000) (hwo:wg o):y8 N l o=some (tB l o):=by
  have hB:(16777216:Nat)=pW:=rfl
  have hoB:qf o<pW:=by omega
  unfold y8 tB;simp only [Gl hN hb,yS hN hb hw,Vw];cases ha:sk l
  · rfl
  have h:=sG.1 ha;have hl:=h.len;simp only [Vz,Vx,if_true];rw [Jn l (fun x=>x.Vc != 0 || decide (x.Vr ≥ 999)) (fun k x=>Sum.inr (putAt l o k x)) (Sum.inl (l.length:Int)) (by omega) (by omega)]
  · simp only [Vw];exact HM l o (Sum.inl (l.length:Int)) (fun o84=>Sum.elim (fun o84=>some (l, -1)) (fun r87=>some r87) o84) (fun k x=>Sum.inr (putAt l o k x)) rfl (fun k x=>rfl) _ 0
  · intro k x hx hk1 hkl;simp only [qQ hkl,Vy,qv,hx,Vw,sA,qV (show k<pW by omega),LC hoB,Int.toNat_natCast];rw [show j8.mk (i64.wrap (x.Vr+1)) o.Vc o.box o.Vp o.qx o.gE o.Vl o.qw o.qq o.Vm o.pX o.Vh o.Vf=tH o (i64.wrap (x.Vr+1)) from rfl,yS hN (PU h (by rw [Ig];exact ho) k) (s6 hw (Gj hwo))];simp only [Vw,sA];unfold putAt
    have hk:(o.Vc==0)=!(o.Vc != 0):=by simp [bne]
    rw [hk];cases (x.Vc != 0 || decide (x.Vr ≥ 999))
    · cases sk (l.set k (tH o (i64.wrap (x.Vr+1))))<;>cases (o.Vc != 0)<;>rfl
    · rfl
  · simp only [qR,Vx]
def marked (o:j8) (m:Bool):j8:=j8.mk o.Vr o.Vc o.box o.Vp o.qx o.gE o.Vl o.qw o.qq m o.pX o.Vh o.Vf
def xo (h:qd) (i:Int):qd:=if sK h&&(qn i 0 9&&((nth h.ag i).Vc != 0)) then qd.mk (h.ag.set i.toNat (marked (nth h.ag i) ((h.gc.Ve==0) || decide (i ≥ h.gc.Vn)))) h.gc else h
theorem Qd {N:Nat} (hN:pW≤N) {h:qd} (h1:qU qf h.ag<pW) (h2:h.gc.pT.length<pW) (i:Int):A3 N h i=some (xo h i):=by
  unfold A3 xo;simp only [Cg hN h1 h2,Eo hN h1 h2,Ah,Vw];cases q:sK h
  · rfl
  cases hi:qn i 0 9
  · rfl
  have hr:=rk.1 hi;simp only [Vy,((vf q).at hr.1 hr.2).1,Vw,VA];cases (nth h.ag i).Vc != 0
  · rfl
  · cases h.gc.Ve==0<;>rfl
theorem PT {N:Nat} (hN:pW≤N) {h:qd} (h1:qU qf h.ag<pW) (h2:h.gc.pT.length<pW) (hw:wA h.ag) (i:Int):AY N h i=some (xo h i):=by
  unfold AY xo;simp only [Dv hN h1 h2,D9 hN h1 h2 hw,zj,Vw,bne];cases q:sK h
  · rfl
  cases hi:qn i 0 9
  · rfl
  have hr:=rk.1 hi;simp only [Vz,Vx,((vf q).at hr.1 hr.2).1,Vw,VA];cases (nth h.ag i).Vc==0
  · cases h.gc.Ve==0<;>rfl
  · rfl
end Go.Kx
namespace Go.Kx
open Go
open Go.IntKind (i64)
set_option linter.unusedVariables false
set_option linter.unusedSimpArgs false
set_option maxRecDepth 10000
def NA (a:qj):Prop:=i64.wrap a.gE=a.gE∧i64.wrap a.qa=a.qa∧i64.wrap a.qg=a.qg
theorem wrap_wrap (n:Int):i64.wrap (i64.wrap n)=i64.wrap n:=by
  have:-9223372036854775808≤i64.wrap n∧i64.wrap n≤9223372036854775807:=by
    simp only [IntKind.wrap,IntKind.signed,IntKind.bits];simp;omega
  exact rG this.1 this.2
theorem NA.sum (a b:qj):NA (qY a b):=⟨wrap_wrap _,wrap_wrap _,wrap_wrap _⟩
theorem NA.zero:NA ⟨0,0,0⟩:=⟨by decide,by decide,by decide⟩
theorem Pw {a:qj} (h:NA a):qY a ⟨0,0,0⟩=a:=by
  obtain ⟨h1,h2,h3⟩:=h;unfold qY;simp only [Int.add_zero,h1,h2,h3]
def vo (t:List qc):qj:=if r9 t then rL ⟨0,0,0⟩ t else ⟨0,0,0⟩
theorem Oq {N:Nat} (hN:pW≤N) {t:List qc} (hB:t.length<pW):zY N t=some (vo t):=by
  unfold zY vo;rw [C1 hN,Vw,HH hN hB];cases r9 t<;>rfl
theorem J9:∀ (t:List qc) (s:qj),NA s→(∀ r,r ∈ t→r.Vs=false→r.qI=⟨0,0,0⟩)→t.foldl (fun s r=>qY s r.qI) s=rL s t
  | [],s,_,_=>rfl
  | r::t,s,hs,h=>by
    unfold rL;simp only [List.foldl_cons];cases hl:r.Vs
    · rw [h r (by simp) hl,Pw hs];exact J9 t s hs fun x hx=>h x (by simp [hx])
    · exact J9 t _ (NA.sum _ _) fun x hx=>h x (by simp [hx])
structure Tr (t:List qc):Prop where
  len:t.length=5
  Mk:(nth t 0).Vs=true
  UD:(nth t 0).Vq=-1
  dead:∀ r,r ∈ t→r.Vs=false→r=DI
  qI:∀ r,r ∈ t→re r.qI=true
  lead:∀ (k:Nat) (r:qc),t[k]?=some r→r.Vs=true→leads t 5 (k:Int)=true
  sum:re (rL ⟨0,0,0⟩ t)=true
theorem PJ:re DI.qI=true:=by decide
theorem zr {t:List qc}:r9 t=true ↔ Tr t:=by
  unfold r9;simp only [VB,Bool.not_eq_true',bne_eq_false_iff_eq,vX,Nat.zero_add];constructor
  · rintro ⟨h1,h2,h3,h4,h5⟩;have hm:∀ r,r ∈ t→∃ k:Nat,t[k]?=some r:=fun o ho=>List.getElem?_of_mem ho;refine ⟨by omega,h2,h3,fun r hr hl=>?_,fun r hr=>?_,fun k r hk hl=>?_,h5⟩
    · obtain ⟨k,hk⟩:=hm r hr;have:=h4 k r hk;unfold xK at this;simpa [hl] using this
    · obtain ⟨k,hk⟩:=hm r hr;have:=h4 k r hk;unfold xK at this;split at this
      · simp only [VB] at this;exact this.1
      · simp only [decide_eq_true_eq] at this;rw [this];exact PJ
    · have:=h4 k r hk;unfold xK at this;rw [if_pos hl] at this;simp only [VB] at this;exact this.2
  · intro h;refine ⟨by have:=h.len;omega,h.Mk,h.UD,fun k r hr=>?_,h.sum⟩;unfold xK;have hm:=List.mem_of_getElem? hr;cases hl:r.Vs
    · simp [h.dead r hm hl]
    · simp [h.qI r hm,h.lead k r hr hl]
theorem Ii {N:Nat} (hN:pW≤N) {t:List qc} (hB:t.length<pW):yu N t=some (vo t):=by
  unfold yu vo;rw [Ae hN,Vw];cases h:r9 t
  · rfl
  have ht:=zr.1 h;simp only [Vz,Vx,if_true]
  rw [show ((0:Int),(0:Int),(0:Int),(0:Int))=(fun (k:Nat) (s:qj)=>((k:Int),s.gE,s.qa,s.qg)) 0 ⟨0,0,0⟩ from rfl,
    sC t (fun (k:Nat) (s:qj)=>((k:Int),s.gE,s.qa,s.qg)) (fun _ s r=>qY s r.qI) (fun s=>((t.length:Int),s.gE,s.qa,s.qg)) (fun _ _=>True) ?_ ?_ (Nat.lt_of_lt_of_le hB hN) trivial,tJ,J9 t _ NA.zero fun r hr hl=>by rw [ht.dead r hr hl];rfl]
  · rfl
  · intro k s r hy hk _;simp only [qQ hk,Vy,qv,hy,Vw,Ao,qV (Nat.lt_trans hk hB)];exact ⟨trivial,trivial⟩
  · intro s _;simp only [qR,Vx]
def held (p:cd):Int:=((p.U7.ag.take 10).filter sB).foldl (fun n o=>i64.wrap (n+o.gE)) 0
theorem foldl_filter {α β:Type} (p:α→Bool) (g:β→α→β):∀ (l:List α) (b:β),(l.filter p).foldl g b=l.foldl (fun b y=>if p y then g b y else b) b
  | [],_=>rfl
  | y::l,b=>by
    rw [List.filter_cons,List.foldl_cons];cases h:p y
    · simp [foldl_filter p g l]
    · simp [foldl_filter p g l]
theorem foldl_map' {α β γ:Type} (f:α→γ) (g:β→γ→β):∀ (l:List α) (b:β),(l.map f).foldl g b=l.foldl (fun b y=>g b (f y)) b
  | [],_=>rfl
  | y::l,b=>by simp [foldl_map' f g l]
theorem Iv {α β:Type} (p:α→Bool) (h:α→β):∀ (l:List α) (k:Nat),uW (fun _ y=>p y) (fun _ y=>h y) k l=(l.filter p).map h
  | [],_=>rfl
  | y::l,k=>by
    unfold uW;rw [Iv p h l,List.filter_cons];split<;>simp
theorem S6 {N:Nat} (hN:pW≤N) {p:cd} (hb:qh p<pW) (hw:wP p):CQ N p=some (held p):=by
  have h4:=(sm hb).2.2.2.1;have hl:=rS h4;have hN':16777216≤N:=hN;unfold CQ held
  rw [foldl_filter,show ((0:Int),(0:Int))=(fun (k:Nat) (n:Int)=>(n,(k:Int))) 0 0 from rfl,
    sC (p.U7.ag.take 10) (fun (k:Nat) (n:Int)=>(n,(k:Int))) (fun _ n o=>if sB o then i64.wrap (n+o.gE) else n) (fun n=>(n,(((p.U7.ag.take 10).length:Nat):Int))) (fun _ _=>True) ?_ ?_ (by simp;omega) trivial,tJ]
  · rfl
  · intro k n y hy hk _
    have hk2:k<10∧k<p.U7.ag.length:=by simp at hk;omega
    rw [List.getElem?_take_of_lt hk2.1] at hy;have hm:=List.mem_of_getElem? hy
    have h3:decide ((k:Int)<10)=true:=by simp;omega
    refine ⟨?_,trivial⟩;simp only [qQ hk2.2,h3,Vy,qv,hy,Vw,LY hN (rE h4 hm) (hw y hm),qV (show k<pW from Nat.lt_trans hk2.1 (by decide))];cases sB y<;>rfl
  · intro n _;simp only [List.length_take]
    rcases Nat.lt_or_ge 10 p.U7.ag.length with h | h
    · have e:min 10 p.U7.ag.length=10:=by omega
      have h3:decide (((10:Nat):Int)<(p.U7.ag.length:Int))=true:=by simp;omega
      simp only [e,h3,Vy];rfl
    · have e:min 10 p.U7.ag.length=p.U7.ag.length:=by omega
      simp only [e,qR,Vx,Vw]
def view (o:j8):xM:=xM.mk o.Vr o.Vc o.box o.Vp o.qx o.gE o.Vl o.qw o.qq o.Vm
theorem TE (n:Nat):(if (10:Int)<(n:Int) then (10:Int) else (n:Int))=((min 10 n:Nat):Int):=by split<;>omega
theorem IK {N:Nat} (hN:pW≤N) {p:cd} (hb:qh p<pW):wJ N p=some (((p.U7.ag.take 10).filter sB).map view):=by
  have h4:=(sm hb).2.2.2.1;have h10:qU qf (p.U7.ag.take 10)<pW:=Nat.lt_of_le_of_lt (Pt _ _ _) h4;have hl:=rS h10;unfold wJ
  have e:p.U7.ag.take (min 10 p.U7.ag.length)=p.U7.ag.take 10:=by
    rcases Nat.lt_or_ge 10 p.U7.ag.length with h | h
    · rw [show min 10 p.U7.ag.length=10 by omega]
    · rw [show min 10 p.U7.ag.length=p.U7.ag.length by omega,List.take_of_length_le h,List.take_length]
  rw [TE,Es (by omega),e,Vw,wK (p.U7.ag.take 10) (fun _ o=>sB o) (fun _ o=>view o) hl hN,Iv]
  · rfl
  · intro k t y hy hk ht;have hz:=rE h10 (List.mem_of_getElem? hy);simp only [qQ hk,Vy,qv,hy,Vw,Md hN hz,qV (Nat.lt_trans hk hl),tQ ht (Nat.lt_of_le_of_lt hk hl)];cases sB y<;>rfl
  · intro t;simp only [qR,Vx]
theorem R5 {N:Nat} (hN:pW≤N) {p:cd} (hb:qh p<pW):C2 N p=some (held p):=by
  unfold C2 held;rw [IK hN hb,Vw]
  have hl:(((p.U7.ag.take 10).filter sB).map view).length<pW:=by
    have h1:=List.length_filter_le sB (p.U7.ag.take 10);have h2:(16777216:Nat)=pW:=rfl;simp only [List.length_map];simp only [List.length_take] at h1;omega
  have e:=foldl_map' view (fun (n:Int) (o:xM)=>i64.wrap (n+o.gE)) ((p.U7.ag.take 10).filter sB) 0;generalize ((p.U7.ag.take 10).filter sB).map view=v at *
  rw [show ((0:Int),(0:Int))=(fun (k:Nat) (n:Int)=>(n,(k:Int))) 0 0 from rfl,
    sC v (fun (k:Nat) (n:Int)=>(n,(k:Int))) (fun _ n o=>i64.wrap (n+o.gE)) (fun n=>(n,(v.length:Int))) (fun _ _=>True) ?_ ?_ (Nat.lt_of_lt_of_le hl hN) trivial,tJ,e]
  · rfl
  · intro k n y hy hk _;simp only [qQ hk,Vy,qv,hy,Vw,qV (Nat.lt_trans hk hl)];exact ⟨trivial,trivial⟩
  · intro n _;simp only [qR,Vx]
def zq (p:cd):qj:=if re p.bh then qY ⟨i64.wrap ((vo p.Vd).gE+held p),(vo p.Vd).qa,(vo p.Vd).qg⟩ p.bh else vo p.Vd
theorem Oh {N:Nat} (hN:pW≤N) {p:cd} (hb:qh p<pW):zH N p=some (zq p):=by
  unfold zH zq;simp only [Ii hN (sm hb).2.2.1,yr,R5 hN hb,Ao,Vw];cases re p.bh<;>rfl
theorem O8 {N:Nat} (hN:pW≤N) {p:cd} (hb:qh p<pW) (hw:wP p):z6 N p=some (zq p):=by
  unfold z6 zq;simp only [Oq hN (sm hb).2.2.1,zt,S6 hN hb hw,Vw];cases re p.bh<;>rfl
def CH (s:qj) (l:List cd):qj:=l.foldl (fun s p=>qY s (zq p)) s
def rT (w:qi):Bool:=qn w.Vo 0 1000000&&(qn (w.parts.length:Int) 1 3&&(w.parts.all rF&&re (CH ⟨0,0,0⟩ w.parts)))
def wW (l:List cd):Prop:=∀ p,p ∈ l→wP p
theorem NK {w:qi} (h:Fit.fit w):wW w.parts:=fun p hp=>SA (h.2.2 p hp)
theorem P9 {N:Nat} (hN:pW≤N) {l:List cd} (hb:qU qh l<pW) (hw:wW l):AP N l=some (CH ⟨0,0,0⟩ l):=by
  have hB:=rS hb;unfold AP CH
  rw [show ((0:Int),(0:Int),(0:Int),(0:Int))=(fun (k:Nat) (s:qj)=>((k:Int),s.gE,s.qa,s.qg)) 0 ⟨0,0,0⟩ from rfl,
    sC l (fun (k:Nat) (s:qj)=>((k:Int),s.gE,s.qa,s.qg)) (fun _ s p=>qY s (zq p)) (fun s=>((l.length:Int),s.gE,s.qa,s.qg)) (fun _ _=>True) ?_ ?_ (Nat.lt_of_lt_of_le hB hN) trivial,tJ]
  · rfl
  · intro k s p hy hk _;have hm:=List.mem_of_getElem? hy;simp only [qQ hk,Vy,qv,hy,Vw,O8 hN (rE hb hm) (hw p hm),qV (Nat.lt_trans hk hB)];exact ⟨rfl,trivial⟩
  · intro s _;simp only [qR,Vx]
theorem Dg {N:Nat} (hN:pW≤N) {w:qi} (hb:qU qh w.parts<pW) (hw:wW w.parts):vG N w=some (rT w):=by
  have hB:=rS hb;unfold vG rT;simp only [ua,Vw,sA];cases qn w.Vo 0 1000000
  · rfl
  cases qn (w.parts.length:Int) 1 3
  · rfl
  simp only [Vz,Bool.or_self,Vx,VA];rw [sj w.parts (fun _ p=>rF p) (.inl (w.parts.length:Int)) (.inr false) (Nat.lt_of_lt_of_le hB hN),sE]
  · simp only [Vw,P9 hN hb hw,zt];cases w.parts.all rF<;>rfl
  · intro k y hy hk;have hm:=List.mem_of_getElem? hy;simp only [qQ hk,Vy,qv,hy,Vw,Ag hN (rE hb hm) (hw y hm),qV (Nat.lt_trans hk hB)];cases rF y<;>rfl
  · simp only [qR,Vx]
theorem Dq {N:Nat} (hN:pW≤N) {w:qi} (hb:qU qh w.parts<pW):vN N w=some (rT w):=by
  have hB:=rS hb;unfold vN rT;simp only [CT,uA,Vw,sA];cases qn w.Vo 0 1000000
  · rfl
  cases qn (w.parts.length:Int) 1 3
  · rfl
  simp only [Vz,Bool.or_self,Vx,VA]
  rw [show ((0:Int),(0:Int),(0:Int),(0:Int))=(fun (k:Nat) (s:qj)=>((k:Int),s.gE,s.qa,s.qg)) 0 ⟨0,0,0⟩ from rfl,
    vh w.parts (fun (k:Nat) (s:qj)=>((k:Int),s.gE,s.qa,s.qg)) (fun _ s p=>if rF p then .inl (qY s (zq p)) else .inr (.inr false)) (fun s=>.inl ((w.parts.length:Int),s.gE,s.qa,s.qg)) (fun _ _=>True) ?_ ?_ (Nat.lt_of_lt_of_le hB hN) trivial]
  · simp only [Vw,yr]
    have key:∀ (l:List cd) (k:Nat) (s:qj),Sum.elim (fun (o56:Int×Int×Int×Int)=>some (re (qj.mk o56.2.1 o56.2.2.1 o56.2.2.2))) (fun r61=>some r61) (tV (fun _ s p=>if rF p then .inl (qY s (zq p)) else .inr (.inr false)) (fun s=>.inl ((w.parts.length:Int),s.gE,s.qa,s.qg)) k s l)=some (l.all rF&&re (CH s l)):=by
      intro l
      induction l with
      | nil=>intro k s;rfl
      | cons p l ih =>
        intro k s;unfold tV;rw [List.all_cons];cases hp:rF p
        · rfl
        · simpa [CH] using ih (k+1) (qY s (zq p))
    exact key w.parts 0 _
  · intro k s p hy hk _;have hm:=List.mem_of_getElem? hy;refine ⟨?_,fun _ _=>trivial⟩;simp only [qQ hk,Vy,qv,hy,Vw,Ac hN (rE hb hm),Oh hN (rE hb hm),Ao,qV (Nat.lt_trans hk hB)];cases rF p<;>rfl
  · intro s _;simp only [qR,Vx]
end Go.Kx
namespace Go.Kx
open Go
open Go.IntKind (i64)
set_option linter.unusedVariables false
set_option linter.unusedSimpArgs false
set_option maxRecDepth 10000
theorem xp {t:List qc} (h:r9 t=true):t.length=5:=(zr.1 h).len
def we (p:cd) (i:Int):Int:=if r9 p.Vd&&ru p.Vd i then i else 0
theorem tM {t:List qc} {i:Int} (h:ru t i=true):0≤i∧i≤4:=by
  unfold ru at h;simp only [VB,rk] at h;exact h.1
theorem BJ (p:cd) (i:Int):0≤we p i∧we p i≤4:=by
  unfold we;split
  · rename_i h;simp only [VB] at h;exact tM h.2
  · omega
theorem Hw {N:Nat} (hN:pW≤N) (p:cd) (i:Int):yP N p i=some (we p i):=by
  unfold yP we;rw [Ae hN,Vw];cases h:r9 p.Vd
  · rfl
  · simp only [Vz,Vx,yW N (xp h),Vw,VA];cases ru p.Vd i<;>rfl
theorem Af {N:Nat} (hN:pW≤N) (t:List qc) (i:Int):uv N t i=some (r9 t&&ru t i):=by
  unfold uv ru;simp only [C1 hN,CC,Vw];cases h:r9 t
  · rfl
  have hl:=xp h;cases hi:qn i 0 4
  · rfl
  · simp only [Vy,GV hi (by omega) (show (4:Int)<(t.length:Int) by omega),Vw,VA]
theorem DJ {N:Nat} (hN:pW≤N) (p:cd) (i:Int):uJ N p i=some (we p i):=by
  unfold uJ we;rw [Af hN,Vw];cases (r9 p.Vd&&ru p.Vd i)<;>rfl
theorem Dy {p:cd} (h:rF p=true):r9 p.Vd=true:=by
  unfold rF at h;simp only [VB] at h;exact h.2.2.1
theorem DM {p:cd} (h:rF p=true) {i:Int} (h0:0≤i) (h4:i≤4):idx p.Vd i=some (nth p.Vd i):=ri h0 (by have:=xp (Dy h);omega)
def z8 (p:cd) (i:Int):qj:=(nth p.Vd (we p (nth p.U7.ag i).Vp)).qI
theorem Fy {N:Nat} (hN:pW≤N) {p:cd} (h:rF p=true) {i:Int} (h0:0≤i) (h9:i≤9):xE N p i=some (z8 p i):=by
  unfold xE z8;obtain ⟨r0,r4⟩:=BJ p (nth p.U7.ag i).Vp;simp only [((sg h).at h0 h9).1,Vw,Hw hN,DM h r0 r4]
def CX (p:cd) (i:Int):Bool:=((nth p.U7.ag i).Vl==0)&&decide ((z8 p i).qg > 0)
def runnable (p:cd) (now:Int):List Int:=(threads p now).filter (CX p)
theorem ED (p:cd) (now:Int):(runnable p now).length≤10:=by
  unfold runnable;refine Nat.le_trans (List.length_filter_le _ _) ?_;unfold threads;split
  · rename_i hp;refine Nat.le_trans (Ds _ _ _ _) ?_;rw [xF (sg hp)];exact Nat.le_refl _
  · exact Nat.zero_le _
theorem ND {N:Nat} (hN:pW≤N) {p:cd} (hb:qh p<pW) (now:Int):yO N p now=some (runnable p now):=by
  have hl:=yn p now;unfold yO runnable;rw [EV hN hb,Vw,wK (threads p now) (fun _ i=>CX p i) (fun _ y=>y) hl hN,xn]
  · rfl
  · intro k t y hy hk ht;obtain ⟨hp,y0,y9⟩:=u7 (List.mem_of_getElem? hy);simp only [qQ hk,Vy,qv,hy,Vw,((sg hp).at y0 y9).1,Fy hN hp y0 y9,tz,qV (Nat.lt_trans hk hl),tQ ht (Nat.lt_of_le_of_lt hk hl)]
    show (bif CX p y then _ else _)=_
    cases CX p y<;>rfl
  · intro t;simp only [qR,Vx]
theorem NB {N:Nat} (hN:pW≤N) {p:cd} (hb:qh p<pW) (hw:wP p) (now:Int):yN N p now=some (runnable p now):=by
  have hl:=yn p now;unfold yN runnable;rw [EE hN hb hw,Vw,wK (threads p now) (fun _ i=>CX p i) (fun _ y=>y) hl hN,xn]
  · rfl
  · intro k t y hy hk ht;obtain ⟨hp,y0,y9⟩:=u7 (List.mem_of_getElem? hy);obtain ⟨r0,r4⟩:=BJ p (nth p.U7.ag y).Vp;simp only [qQ hk,Vy,qv,hy,Vw,((sg hp).at y0 y9).1,DJ hN,DM hp r0 r4,tz,qV (Nat.lt_trans hk hl),tQ ht (Nat.lt_of_le_of_lt hk hl)]
    show (bif CX p y then _ else _)=_
    cases CX p y<;>rfl
  · intro t;simp only [qR,Vx]
end Go.Kx
namespace Go.Kx
open Go
open Go.IntKind (i64)
set_option linter.unusedVariables false
set_option linter.unusedSimpArgs false
set_option maxRecDepth 10000
def vx (h:Int):Bool:=qn h 0 29999
def vC (h:Int):Int:=if vx h then h % 3 else -1
def vB (h:Int):Int:=if vx h then h / 3 % 10 else -1
def Gt (h:Int):Int:=if vx h then h / 3 / 10 else -1
theorem Hx {h:Int}:vx h=true ↔ 0≤h∧h≤29999:=rk
theorem hdiv {h:Int} (q:vx h=true):i64.wrap (Int.tdiv h 3)=h / 3∧Int.tmod h 3=h % 3∧Int.tmod (h / 3) 10=h / 3 % 10∧i64.wrap (Int.tdiv (h / 3) 10)=h / 3 / 10:=by
  rw [Hx] at q
  have h3:0≤h / 3:=by omega
  refine ⟨?_,Int.tmod_eq_emod_of_nonneg q.1,Int.tmod_eq_emod_of_nonneg h3,?_⟩
  · rw [Int.tdiv_eq_ediv_of_nonneg q.1,rG (by omega) (by omega)]
  · rw [Int.tdiv_eq_ediv_of_nonneg h3,rG (by omega) (by omega)]
theorem CV (N:Nat) (h:Int):uS N h=some (vC h):=by
  unfold uS vC;rw [xL,Vw];cases q:qn h 0 29999
  · simp [vx,q]
  · simp [vx,q,(hdiv (h:=h) q).2.1]
theorem De (N:Nat) (h:Int):uR N h=some (vC h):=by
  unfold uR vC;rw [zn,Vw];cases q:qn h 0 29999
  · simp [vx,q]
  · simp [vx,q,(hdiv (h:=h) q).2.1]
theorem Jb (N:Nat) (h:Int):xk N h=some (vB h):=by
  unfold xk vB;rw [xL,Vw];cases q:qn h 0 29999
  · simp [vx,q]
  · simp [vx,q,(hdiv (h:=h) q).1,(hdiv (h:=h) q).2.2.1]
theorem I8 (N:Nat) (h:Int):xu N h=some (vB h):=by
  unfold xu vB;rw [zn,Vw];cases q:qn h 0 29999
  · simp [vx,q]
  · simp [vx,q,(hdiv (h:=h) q).1,(hdiv (h:=h) q).2.2.1]
theorem K4 (N:Nat) (h:Int):yj N h=some (Gt h):=by
  unfold yj Gt;rw [xL,Vw];cases q:qn h 0 29999
  · simp [vx,q]
  · simp [vx,q,(hdiv (h:=h) q).1,(hdiv (h:=h) q).2.2.2]
theorem Lv (N:Nat) (h:Int):yd N h=some (Gt h):=by
  unfold yd Gt;rw [zn,Vw];cases q:qn h 0 29999
  · simp [vx,q]
  · simp [vx,q,(hdiv (h:=h) q).1,(hdiv (h:=h) q).2.2.2]
def Bt (p i g:Int):Int:=if qn p 0 2&&(qn i 0 9&&qn g 0 999) then i64.wrap ((i64.wrap ((i64.wrap ((i64.wrap (g * 10))+i)) * 3))+p) else -1
theorem Hg (N:Nat) (p i g:Int):xt N p i g=some (Bt p i g):=by
  unfold xt Bt;simp only [Ei,Ah,uA,Vw,sA];cases qn p 0 2<;>cases qn i 0 9<;>cases qn g 0 999<;>rfl
theorem GB (N:Nat) (p i g:Int):xm N p i g=some (Bt p i g):=by
  unfold xm Bt;simp only [zj,ua,Vw,sA];cases qn p 0 2<;>cases qn i 0 9<;>cases qn g 0 999<;>rfl
theorem Oe {h:Int} (q:0≤vC h):vx h=true∧0≤vB h∧vB h≤9:=by
  unfold vC at q;unfold vB;cases hk:vx h
  · simp [hk] at q
  · rw [Hx] at hk;simp only [if_true];exact ⟨trivial,by omega,by omega⟩
def rp (w:qi) (p:Int):Bool:=qn p 0 ((w.parts.length:Int) - 1)
theorem Du {N:Nat} {w:qi} (hl:w.parts.length<pW) (p:Int):vE N w p=some (rp w p):=by
  have hl:w.parts.length<16777216:=hl;unfold vE rp;rw [uA,rG (by omega) (by omega)];rfl
theorem r8 {w:qi} {p:Int} (h:rp w p=true):idx w.parts p=some (nth w.parts p)∧nth w.parts p ∈ w.parts:=by
  unfold rp at h;rw [rk] at h;exact ⟨ri h.1 (by omega),tP h.1 (by omega)⟩
end Go.Kx
namespace Go.Kx
open Go
open Go.IntKind (i64)
set_option linter.unusedVariables false
set_option linter.unusedSimpArgs false
set_option maxRecDepth 10000
theorem Ec {N:Nat} (hN:pW≤N) {own:List Int} {a b:rA} (ho:own.length<pW) (ha:a.Va.length<pW) (hb:b.Va.length<pW):vV N own a b=some (yL own a b):=by
  unfold vV yL;simp only [LR hN ho,EH hN ha,EH hN hb,Vw,sA];cases h1:BF own
  · rfl
  cases h2:uQ a
  · rfl
  cases h3:uQ b
  · rfl
  have l2:=(Bx.1 h2).1;have l3:=(Bx.1 h3).1;simp only [Vz,Bool.or_self,Vx,VA];rw [SP a.Va l2 (fun k y=>!decide (y > (b.Va[k]?).getD 0) || own.contains (k:Int)) (.inl 4) (.inr false) hN]
  · simp only [Vw];cases allI _ 0 a.Va<;>rfl
  · intro k y hy hk hd;have hz:b.Va[k]?=some (b.Va[k]'(by omega)):=List.getElem?_eq_getElem _;simp only [hd,Vy,qv,hy,hz,Vw,Option.getD_some,DS hN ho,qV (show k<pW from Nat.lt_trans hk (by decide))];cases decide (y > b.Va[k]'(by omega))<;>cases own.contains (k:Int)<;>rfl
  · rfl
def target (p:Int) (c:qD):Int:=if (c.Vc==7) || (c.Vc==17) then vC c.a else if c.Vc==16 then c.b else p
def other (w:qi) (p:Int) (c:qD):Int:=if rp w (target p c) then target p c else -1
theorem Lu {N:Nat} {w:qi} (hl:w.parts.length<pW) (p:Int) (c:qD):yb N w p c=some (other w p c):=by
  unfold yb other target;simp only [CV,Du hl,Vw]
  cases c.Vc==7<;>cases c.Vc==17<;>cases c.Vc==16<;>simp only [Vy,Vx,Vw,Bool.or_self,Bool.or_true,Bool.true_or,Bool.or_false,if_true,if_false,Bool.false_eq_true] <;>
    first | (cases rp w (vC c.a)<;>rfl) | (cases rp w c.b<;>rfl) | (cases rp w p<;>rfl)
theorem Kz {N:Nat} {w:qi} (hl:w.parts.length<pW) (p:Int) (c:qD):xS N w p c=some (other w p c):=by
  have hl:w.parts.length<16777216:=hl;unfold xS other target rp;simp only [De,ua,Vw];rw [rG (by omega) (by omega)]
  cases c.Vc==7<;>cases c.Vc==17<;>cases c.Vc==16<;>simp only [Vy,Vx,Vw,Bool.or_self,Bool.or_true,Bool.true_or,Bool.or_false,if_true,if_false,Bool.false_eq_true] <;>
    first | (cases qn (vC c.a) 0 ((w.parts.length:Int) - 1)<;>rfl) | (cases qn c.b 0 ((w.parts.length:Int) - 1)<;>rfl) | (cases qn p 0 ((w.parts.length:Int) - 1)<;>rfl)
theorem BI {w:qi} {p:Int} {c:qD} (h:decide (other w p c<0)=false):rp w (other w p c)=true:=by
  unfold other at h ⊢;cases hp:rp w (target p c)
  · simp [hp] at h
  · simp [hp]
end Go.Kx
namespace Go.Kx
open Go
open Go.IntKind (i64)
set_option linter.unusedVariables false
set_option linter.unusedSimpArgs false
set_option maxRecDepth 10000
def better (p:cd) (v i:Int):Int:=if decide ((z8 p i).qg≤(z8 p v).qg) then i else v
def xT (p:cd) (now:Int):Int:=match threads p now with
  | a::b::l=>(b::l).foldl (better p) a
  | _=>-1
theorem GP {p:cd} {m:List Int}:∀ (l:List Int) (v:Int),v ∈ m→(∀ y,y ∈ l→y ∈ m)→l.foldl (better p) v ∈ m
  | [],v,hv,_=>hv
  | y::l,v,hv,h=>by
    rw [List.foldl_cons];refine GP l _ ?_ fun z hz=>h z (by simp [hz]);unfold better;split
    · exact h y (by simp)
    · exact hv
theorem Eh {p:cd} {now:Int} (h:decide (xT p now ≥ 0)=true):xT p now ∈ threads p now:=by
  unfold xT at h ⊢
  cases ht:threads p now with
  | nil=>rw [ht] at h;simp at h
  | cons a l=>cases l with
    | nil=>rw [ht] at h;simp at h
    | cons b l=>exact GP (b::l) a (by simp) fun y hy=>by simp at hy ⊢;exact .inr hy
theorem RD {N:Nat} (hN:pW≤N) {p:cd} {l:List Int} (hl:l.length<pW) {body:Int×Int→Option ((Int×Int)⊕(Int×Int))} (hm:∀ y,y ∈ l→y ∈ l) {v0:Int} (I:Int→Prop) (h0:I v0)
    (hs:∀ (k:Nat) (v y:Int),l[k]?=some y→k<l.length→I v→body (v,(k:Int))=some (.inl (better p v y,((k+1:Nat):Int)))∧I (better p v y)) (he:∀ v,body (v,(l.length:Int))=some (.inr (v,(l.length:Int)))) :
    iter body N (v0,0)=some (l.foldl (better p) v0,(l.length:Int)):=by
  rw [show (v0,(0:Int))=(fun (k:Nat) (v:Int)=>(v,(k:Int))) 0 v0 from rfl,
    sC l (fun (k:Nat) (v:Int)=>(v,(k:Int))) (fun _ v y=>better p v y) (fun v=>(v,(l.length:Int))) (fun _ v=>I v) (fun k v y hy hk hI=>hs k v y hy hk hI) (fun v _=>he v) (Nat.lt_of_lt_of_le hl hN) h0,tJ]
theorem D5 {p:cd} {now y:Int} (h:y ∈ threads p now):rF p=true∧0≤y∧y≤9:=u7 h
theorem Pp {N:Nat} (hN:pW≤N) {p:cd} (hb:qh p<pW) (now:Int):AT N p now=some (xT p now):=by
  have hl:=yn p now;unfold AT xT;rw [EV hN hb,Vw]
  cases ht:threads p now with
  | nil=>rfl
  | cons a l=>cases l with
    | nil=>rfl
    | cons b l =>
      have hm:∀ y,y ∈ a::b::l→rF p=true∧0≤y∧y≤9:=fun y hy=>D5 (by rw [ht];exact hy);rw [ht] at hl;rw [show decide ((((a::b::l).length:Nat):Int)<2)=false by simp;omega,show idx (a::b::l) 0=some a from rfl];simp only [Vx,Vw];rw [RD hN (p:=p) (l:=a::b::l) hl (fun _ h=>h) (fun v=>rF p=true∧0≤v∧v≤9) (hm a (by simp))]
      · have e:better p a a=a:=by unfold better;split<;>rfl
        rw [Vw,List.foldl_cons,e]
      · intro k v y hy hk hI;obtain ⟨hp,y0,y9⟩:=hm y (List.mem_of_getElem? hy);refine ⟨?_,?_⟩
        · simp only [qQ hk,Vy,qv,hy,Vw,Fy hN hp y0 y9,Fy hN hp hI.2.1 hI.2.2,qV (Nat.lt_trans hk hl)];unfold better;cases decide ((z8 p y).qg≤(z8 p v).qg)<;>rfl
        · unfold better;split
          · exact ⟨hp,y0,y9⟩
          · exact hI
      · intro v;simp only [qR,Vx]
theorem PR {N:Nat} (hN:pW≤N) {p:cd} (hb:qh p<pW) (hw:wP p) (now:Int):A0 N p now=some (xT p now):=by
  have hl:=yn p now;have hB:(16777216:Nat)=pW:=rfl;unfold A0 xT;rw [EE hN hb hw,Vw]
  cases ht:threads p now with
  | nil=>rfl
  | cons a l=>cases l with
    | nil=>rfl
    | cons b l =>
      have hm:∀ y,y ∈ a::b::l→rF p=true∧0≤y∧y≤9:=fun y hy=>D5 (by rw [ht];exact hy);rw [ht] at hl;rw [show decide ((((a::b::l).length:Nat):Int)<2)=false by simp;omega];simp only [Vx];obtain ⟨hpa,a0,a9⟩:=hm a (by simp)
      have step:∀ (k:Nat) (v y:Int),(a::b::l)[k]?=some y→k<(a::b::l).length→(v=-1∨0≤v∧v≤9) →
          (bif (decide ((k:Int)<(((a::b::l).length:Nat):Int))) then ((bif (decide (v<0)) then (some true) else ((idx (a::b::l) (k:Int)).bind fun y14=>(idx p.U7.ag y14).bind fun y27=>(idx p.U7.ag v).bind fun y45=>(uJ N p y27.Vp).bind fun y63=>(idx p.Vd y63).bind fun y65=>(uJ N p y45.Vp).bind fun y74=>(idx p.Vd y74).bind fun y76=>some (decide (y65.qI.qg≤y76.qI.qg))):Option Bool).bind fun j11=>bif j11 then ((idx (a::b::l) (k:Int)).bind fun y87=>some (.inl (y87,i64.wrap ((k:Int)+1)))) else (some (.inl (v,i64.wrap ((k:Int)+1))))) else (some (.inr (v,(k:Int)))):Option ((Int×Int)⊕(Int×Int))) =
          some (.inl (if decide (v<0) then y else better p v y,((k+1:Nat):Int))):=by
        intro k v y hy hk hv;obtain ⟨hp,y0,y9⟩:=hm y (List.mem_of_getElem? hy);simp only [qQ hk,Vy,qv,hy,Vw,qV (Nat.lt_trans hk hl)];cases hd:decide (v<0)
        · have hv:0≤v∧v≤9:=by simp at hd;omega
          obtain ⟨r0,r4⟩:=BJ p (nth p.U7.ag y).Vp;obtain ⟨q0,q4⟩:=BJ p (nth p.U7.ag v).Vp;simp only [Vx,((sg hp).at y0 y9).1,((sg hp).at hv.1 hv.2).1,DJ hN,DM hp r0 r4,DM hp q0 q4,Vw,Bool.false_eq_true,if_false];unfold better;rw [show (nth p.Vd (we p (nth p.U7.ag y).Vp)).qI.qg=(z8 p y).qg from rfl,show (nth p.Vd (we p (nth p.U7.ag v).Vp)).qI.qg=(z8 p v).qg from rfl];cases decide ((z8 p y).qg≤(z8 p v).qg)<;>rfl
        · rfl
      rw [show ((-1:Int),(0:Int))=(fun (k:Nat) (v:Int)=>(v,(k:Int))) 0 (-1) from rfl,
        sC (a::b::l) (fun (k:Nat) (v:Int)=>(v,(k:Int))) (fun _ v y=>if decide (v<0) then y else better p v y) (fun v=>(v,(((a::b::l).length:Nat):Int))) (fun _ v=>v=-1∨0≤v∧v≤9) ?_ ?_ (by omega) (.inl rfl),tJ]
      · simp only [Vw];congr 1
        have key:∀ (m:List Int) (v:Int),0≤v→(∀ y,y ∈ m→0≤y)→m.foldl (fun v y=>if decide (v<0) then y else better p v y) v=m.foldl (better p) v:=by
          intro m
          induction m with
          | nil=>intro v _ _;rfl
          | cons y m ih =>
            intro v hv hy
            have hd:decide (v<0)=false:=by simp;omega
            simp only [List.foldl_cons,hd,Bool.false_eq_true,if_false];refine ih _ ?_ fun z hz=>hy z (by simp [hz]);unfold better;split
            · exact hy y (by simp)
            · exact hv
        rw [List.foldl_cons];exact key (b::l) a a0 fun y hy=>(hm y (by simp at hy ⊢;exact .inr hy)).2.1
      · intro k v y hy hk hI;refine ⟨step k v y hy hk hI,.inr ?_⟩;obtain ⟨hp,y0,y9⟩:=hm y (List.mem_of_getElem? hy);split
        · exact ⟨y0,y9⟩
        · rename_i hd;unfold better;split
          · exact ⟨y0,y9⟩
          · simp at hd;omega
      · intro v _;simp only [qR,Vx]
def v8 (p:cd) (l:List j8):cd:=cd.mk p.Vb p.own p.Vd (qd.mk l p.U7.gc) p.pU p.Vj p.Vk p.bh p.pZ p.Vi
def Pl (o:j8) (t:Int):j8:=j8.mk o.Vr o.Vc o.box o.Vp t o.gE o.Vl o.qw o.qq o.Vm o.pX o.Vh o.Vf
def BQ (p:cd) (now:Int):List j8:=if decide (xT p now ≥ 0) then p.U7.ag.set (xT p now).toNat (Pl (nth p.U7.ag (xT p now)) (i64.wrap (now - 1))) else p.U7.ag
def sx (p:cd) (now:Int):cd:=if rF p&&(qn now 1 1000000&&!decide (p.pZ<3)) then cd.mk p.Vb p.own p.Vd (qd.mk (BQ p now) p.U7.gc) p.pU p.Vj p.Vk p.bh 0 p.Vi else p
theorem MA {N:Nat} (hN:pW≤N) {p:cd} (hb:qh p<pW) (now:Int):ze N p now=some (sx p now):=by
  unfold ze sx BQ;simp only [xR hN hb,Ac hN hb,uA,Pp hN hb,Vw,sA];cases hp:rF p
  · rfl
  cases qn now 1 1000000
  · rfl
  cases decide (p.pZ<3)
  · cases hv:decide (xT p now ≥ 0)
    · rfl
    · obtain ⟨_,v0,v9⟩:=u7 (Eh hv);simp only [Vz,Bool.or_self,Vx,Vy,((sg hp).at v0 v9).1,Vw,if_true];rfl
  · rfl
theorem Nb {N:Nat} (hN:pW≤N) {p:cd} (hb:qh p<pW) (hw:wP p) (now:Int):yC N p now=some (sx p now):=by
  unfold yC sx BQ;simp only [At hN hb,Ag hN hb hw,ua,PR hN hb hw,Vw,sA];cases hp:rF p
  · rfl
  cases qn now 1 1000000
  · rfl
  cases decide (p.pZ<3)
  · cases hv:decide (xT p now ≥ 0)
    · rfl
    · obtain ⟨_,v0,v9⟩:=u7 (Eh hv);simp only [Vz,Bool.or_self,Vx,Vy,((sg hp).at v0 v9).1,Vw,if_true];rfl
  · rfl
def Gw (l:List j8) (now part h:Int):Bool:=(sk l&&(vx h&&(vC h==part)))&&(((nth l (vB h)).Vc != 0)&&(((nth l (vB h)).Vr==Gt h)&&nth (reach l now) (vB h)))
def ql (l:List j8) (now part h:Int):Int:=bif Gw l now part h then vB h else -1
theorem Gg {h:Int} (q:vx h=true):0≤vB h∧vB h≤9:=(Oe (h:=h) (by unfold vC;rw [q,if_pos rfl];rw [Hx] at q;omega)).2
theorem CB {N:Nat} (hN:pW≤N) {l:List j8} (hb:qU qf l<pW) (now part h:Int):vj N l now part h=some (ql l now part h):=by
  unfold vj ql Gw;simp only [L8 hN hb,xL,CV,Jb,K4,Vw,sA];cases ha:sk l
  · have e:reach l now=[]:=by unfold reach;rw [ha];rfl
    rw [e];rfl
  have har:=sG.1 ha;have hl:=xF har now;rw [show (((reach l now).length:Int)==0)=false by rw [hl];rfl,show qn h 0 29999=vx h from rfl];cases hh:vx h
  · rfl
  obtain ⟨s0,s9⟩:=Gg hh;simp only [bne,(har.at s0 s9).1,ri (l:=reach l now) s0 (by omega),Vw];cases vC h==part<;>cases (nth l (vB h)).Vc==0<;>cases (nth l (vB h)).Vr==Gt h<;>cases nth (reach l now) (vB h)<;>rfl
theorem Cf {N:Nat} (hN:pW≤N) {l:List j8} (hb:qU qf l<pW) (hw:wA l) (now part h:Int):vg N l now part h=some (ql l now part h):=by
  unfold vg ql Gw;simp only [yS hN hb hw,L6 hN hb hw,zn,De,I8,Lv,Vw,sA];cases ha:sk l
  · rfl
  have har:=sG.1 ha;have hl:=xF har now;rw [show qn h 0 29999=vx h from rfl];cases hh:vx h
  · rfl
  obtain ⟨s0,s9⟩:=Gg hh;simp only [bne,(har.at s0 s9).1,ri (l:=reach l now) s0 (by omega),Vw];cases vC h==part<;>cases (nth l (vB h)).Vc==0<;>cases (nth l (vB h)).Vr==Gt h<;>cases nth (reach l now) (vB h)<;>rfl
def Er (p:cd) (me now:Int) (o:j8):Bool:=decide (o.Vl > 0)&&decide (ql p.U7.ag now me (i64.wrap (o.Vl - 1))<0)
def Ni (o:j8):j8:=j8.mk o.Vr o.Vc o.box o.Vp o.qx o.gE 0 (-1) o.qq o.Vm o.pX o.Vh o.Vf
def GZ (p:cd) (me now:Int):List j8:=p.U7.ag.map fun o=>if Er p me now o then Ni o else o
def tF (p:cd) (me now:Int):cd:=if rF p&&qn me 0 2 then v8 p (GZ p me now) else p
theorem Ai {α:Type} {body:List α×Int→Option ((List α×Int)⊕(List α×Int))} (x:List α) (f:α→α) {N:Nat} (hN:x.length<N)
    (hs:∀ (k:Nat) (t:List α) (y:α),t.length=x.length→t[k]?=some y→x[k]?=some y→k<x.length→body (t,(k:Int))=some (.inl (t.set k (f y),((k+1:Nat):Int))))
    (he:∀ t,t.length=x.length→body (t,(x.length:Int))=some (.inr (t,(x.length:Int)))):iter body N (x,0)=some (x.map f,(x.length:Int)):=by
  have key:∀ (r:List α) (d d':List α) (M:Nat),d'.length=d.length→x=d'++r→r.length<M→iter body M (d++r,(d.length:Int))=some (d++r.map f,(x.length:Int)):=by
    intro r
    induction r with
    | nil =>
      intro d d' M hd hx hM
      cases M with
      | zero=>simp at hM
      | succ M =>
        have e:d.length=x.length:=by rw [hx];simp [hd]
        unfold iter;rw [List.append_nil,e,he d e];simp
    | cons y r ih =>
      intro d d' M hd hx hM
      cases M with
      | zero=>simp at hM
      | succ M =>
        have hlen:(d++y::r).length=x.length:=by rw [hx];simp [hd]
        unfold iter;rw [hs d.length (d++y::r) y hlen (by rw [List.getElem?_append_right (Nat.le_refl _)];simp) (by rw [hx,List.getElem?_append_right (by omega)];simp [hd]) (by rw [← hlen];simp)]
        have e:(d++y::r).set d.length (f y)=(d++[f y])++r:=by rw [List.set_append_right _ _ (Nat.le_refl _)];simp
        have e2:d.length+1=(d++[f y]).length:=by simp
        simp only [Vw,e];rw [e2,ih (d++[f y]) (d'++[y]) M (by simp [hd]) (by rw [hx];simp) (by simp at hM;omega)];simp
  exact key x [] [] N rfl rfl hN
theorem vR {α:Type} {l:List α} {k:Nat} {y:α} (h:l[k]?=some y):l.set k y=l:=by
  apply List.ext_getElem? fun i=>?_;rw [List.getElem?_set];split
  · rename_i e;subst e;rw [if_pos (rD h),h]
  · rfl
theorem My {N:Nat} (hN:pW≤N) {p:cd} (hb:qh p<pW) (me now:Int):yZ N p me now=some (tF p me now):=by
  have h4:=(sm hb).2.2.2.1;have hl:=rS h4;unfold yZ tF GZ v8;simp only [xR hN hb,Ac hN hb,Ei,Vw,sA];cases hp:rF p
  · rfl
  cases qn me 0 2
  · rfl
  simp only [Vz,Bool.or_self,Vx,Bool.and_self,if_true];rw [Ai p.U7.ag (fun o=>if Er p me now o then Ni o else o) (Nat.lt_of_lt_of_le hl hN)]
  · rfl
  · intro k t y ht hty hy hk;simp only [qQ hk,Vy,qv,hy,hty,Vw,CB hN h4,tz,qV (Nat.lt_trans hk hl),Int.toNat_natCast,List.getElem?_set_self (show k<t.length by omega),List.set_set];rw [show (decide (y.Vl > 0)&&decide (ql p.U7.ag now me (i64.wrap (y.Vl - 1))<0))=Er p me now y from rfl];cases Er p me now y
    · simp [vR hty]
    · rfl
  · intro t ht;simp only [qR,Vx]
theorem Mm {N:Nat} (hN:pW≤N) {p:cd} (hb:qh p<pW) (hw:wP p) (me now:Int):zd N p me now=some (tF p me now):=by
  have h4:=(sm hb).2.2.2.1;have hl:=rS h4;unfold zd tF GZ v8;simp only [At hN hb,Ag hN hb hw,ua,Vw,sA];cases hp:rF p
  · rfl
  cases qn me 0 2
  · rfl
  simp only [Vz,Bool.or_self,Vx,Bool.and_self,if_true];rw [Ai p.U7.ag (fun o=>if Er p me now o then Ni o else o) (Nat.lt_of_lt_of_le hl hN)]
  · rfl
  · intro k t y ht hty hy hk;simp only [ht,qQ hk,Vy,qv,hy,hty,Vw,Cf hN h4 hw,tz,qV (Nat.lt_trans hk hl),Int.toNat_natCast,List.getElem?_set_self (show k<t.length by omega),List.set_set];rw [show (decide (y.Vl > 0)&&decide (ql p.U7.ag now me (i64.wrap (y.Vl - 1))<0))=Er p me now y from rfl];cases Er p me now y
    · simp [vR hty]
    · rfl
  · intro t ht;simp only [ht,qR,Vx]
theorem I7 {f:j8→Nat} {g:j8→j8} (h:∀ o,f (g o)=f o):∀ l:List j8,qb f (l.map g)=qb f l
  | []=>rfl
  | o::l=>by simp only [List.map_cons,qb,h,I7 h l]
theorem LZ {f:j8→Nat} {g:j8→j8} (h:∀ o,f (g o)=f o) (l:List j8):qU f (l.map g)=qU f l:=by
  unfold qU;rw [I7 h,List.length_map]
theorem HC (p:cd) (me now:Int):qh (tF p me now)=qh p:=by
  unfold tF;split
  · unfold qh v8 sy GZ;simp only;rw [LZ fun o=>by split<;>rfl]
  · rfl
theorem HJ (p:cd) (now:Int):qh (sx p now)≤qh p+100:=by
  unfold sx;split
  · rename_i h;simp only [VB] at h
    have hsz:qU qf (BQ p now)≤qU qf p.U7.ag+12:=by
      unfold BQ;split
      · rename_i hv;obtain ⟨_,v0,v9⟩:=u7 (Eh hv);have:=Ep ((sg h.1).ok _ ((sg h.1).at v0 v9).2);exact Nat.le_trans Bh (Nat.add_le_add_left this _)
      · omega
    unfold qh sy;simp only;omega
  · omega
end Go.Kx
