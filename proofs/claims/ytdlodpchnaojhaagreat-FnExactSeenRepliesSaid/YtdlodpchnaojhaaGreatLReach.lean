import Derived.Test.YtdlodpchnaojhaaGreatLSame
namespace Go.Kx
open Go
open Go.IntKind (i64)
set_option linter.unusedVariables false
set_option linter.unusedSimpArgs false
set_option maxRecDepth 10000
theorem CP {σ ρ:Type} {body:σ→Option (σ⊕ρ)} (μ:σ→Nat) (I:σ→Prop) (Q:ρ→Prop) (h:∀ s,I s→(∃ s',body s=some (.inl s')∧I s'∧μ s'<μ s)∨∃ r,body s=some (.inr r)∧Q r):∀ (N:Nat) (s:σ),I s→μ s<N→∃ r,iter body N s=some r∧Q r
  | 0,s,_,hN=>by omega
  | N+1,s,hI,hN=>by
    unfold iter
    rcases h s hI with ⟨s',h1,h2,h3⟩ | ⟨r,h1,h2⟩
    · rw [h1];exact CP μ I Q h N s' h2 (by omega)
    · rw [h1];exact ⟨r,rfl,h2⟩
theorem v5 {α β:Type} {p:Nat→α→Bool} {h:Nat→α→β} {z:β}:∀ {l:List α} {k:Nat},z ∈ lZ p h k l ↔ ∃ (i:Nat) (y:α),l[i]?=some y∧p (k+i) y=true∧z=h (k+i) y
  | [],k=>by simp [lZ]
  | y::l,k=>by
    have ih:=v5 (p:=p) (h:=h) (z:=z) (l:=l) (k:=k+1)
    have key:(∃ (i:Nat) (x:α),(y::l)[i]?=some x∧p (k+i) x=true∧z=h (k+i) x) ↔ (p k y=true∧z=h k y)∨z ∈ lZ p h (k+1) l:=by
      rw [ih];constructor
      · rintro ⟨i,x,h1,h2,h3⟩
        cases i with
        | zero=>simp at h1;subst h1;exact .inl ⟨h2,h3⟩
        | succ i=>exact .inr ⟨i,x,by simpa using h1,by rwa [show k+1+i=k+(i+1) by omega],by rwa [show k+1+i=k+(i+1) by omega]⟩
      · rintro (⟨h2,h3⟩ | ⟨i,x,h1,h2,h3⟩)
        · exact ⟨0,y,rfl,h2,h3⟩
        · exact ⟨i+1,x,by simpa using h1,by rwa [show k+(i+1)=k+1+i by omega],by rwa [show k+(i+1)=k+1+i by omega]⟩
    rw [key,show lZ p h k (y::l)=if p k y then h k y::lZ p h (k+1) l else lZ p h (k+1) l from rfl];cases hp:p k y<;>simp
structure Ar (l:List gP):Prop where
  len:l.length=10
  MF:(nth l 0).N0=1
  Ng:(nth l 0).box=-1
  NH:(nth l 0).iw=1000000
  ok:∀ o,o ∈ l→j2 o=true
  gX:∀ o,o ∈ l→∀ y,y ∈ o.gX→0≤y→(nth l y).N0 ≠ 0
  box:∀ (k:Nat) (o:gP),l[k]?=some o→0<k→o.N0 ≠ 0→0≤o.box→(nth l o.box).N0 ≠ 0
theorem Gb {l:List gP} {k:Nat} {o:gP}:tF l k o=true ↔ j2 o=true∧(0<k→o.N0 ≠ 0→0≤o.box→(nth l o.box).N0 ≠ 0)∧∀ y,y ∈ o.gX→0≤y→(nth l y).N0 ≠ 0:=by
  unfold tF vr uD;simp only [Oq,List.all_eq_true,Bool.not_eq_true',Bool.and_eq_false_iff,decide_eq_false_iff_not,bne_eq_false_iff_eq,beq_eq_false_iff_ne,ne_eq];constructor
  · rintro ⟨⟨h1,h2⟩,h3⟩;refine ⟨h1,fun a b c=>?_,fun y hy h0=>?_⟩
    · rcases h2 with q | q | q | q
      · omega
      · exact absurd q b
      · omega
      · exact q
    · rcases h3 y hy with q | q
      · omega
      · exact q
  · rintro ⟨h1,h2,h3⟩;refine ⟨⟨h1,?_⟩,fun y hy=>?_⟩
    · by_cases a:0<k
      · by_cases b:o.N0=0
        · exact .inr (.inl b)
        · by_cases c:0≤o.box
          · exact .inr (.inr (.inr (h2 a b c)))
          · exact .inr (.inr (.inl (by omega)))
      · exact .inl (by omega)
    · by_cases c:0≤y
      · exact .inr (h3 y hy c)
      · exact .inl (by omega)
theorem j5 {l:List gP}:jJ l=true ↔ Ar l:=by
  unfold jJ vb;simp only [Oq,Bool.not_eq_true',bne_eq_false_iff_eq,Bool.or_eq_false_iff,lQ,Nat.zero_add,Gb];constructor
  · rintro ⟨h1,⟨h2,h3,h4⟩,h5⟩;have hm:∀ o,o ∈ l→∃ k:Nat,l[k]?=some o:=fun o ho=>List.getElem?_of_mem ho;refine ⟨by omega,h2,h3,h4,fun o ho=>?_,fun o ho=>?_,fun k o hk=>?_⟩
    · obtain ⟨k,hk⟩:=hm o ho;exact (h5 k o hk).1
    · obtain ⟨k,hk⟩:=hm o ho;exact (h5 k o hk).2.2
    · exact (h5 k o hk).2.1
  · intro h;refine ⟨by have:=h.len;omega,⟨h.MF,h.Ng,h.NH⟩,fun i y hy=>⟨h.ok y (List.mem_of_getElem? hy),h.box i y hy,h.gX y (List.mem_of_getElem? hy)⟩⟩
theorem Ar.at {l:List gP} (h:Ar l) {i:Int} (h0:0≤i) (h9:i≤9):idx l i=some (nth l i)∧nth l i ∈ l:=⟨iT h0 (by have:=h.len;omega),kJ h0 (by have:=h.len;omega)⟩
theorem Ar.wF {l:List gP} (h:Ar l):l.length<gS:=by rw [h.len];decide
def jg (o:gP) (now:Int):Bool:=bif o.N0==0 then true else decide (o.iw<now)
theorem wg (N:Nat) (o:gP) (now:Int):mn N o now=some (jg o now):=pd _ _ _
theorem uh (N:Nat) (o:gP) (now:Int):lG N o now=some (jg o now):=pd _ _ _
def zO (l:List gP) (i:Int) (k:Nat) (y:gP):Bool:=(decide ((k:Int) > 0)&&(y.N0 != 0&&((y.box==i)&&((nth l i).N0==1)))) || (nth l i).gX.contains (k:Int)
def lF (l:List gP) (i:Int):List Int:=lZ (zO l i) (fun k _=>(k:Int)) 0 l
theorem HF {o:gP} (h:j2 o=true):o.gX.length<gS:=Nat.lt_of_le_of_lt (ub h).1 (by decide)
theorem we {l:List gP} {i k:Int} (h:k ∈ lF l i):0≤k∧k<(l.length:Int):=by
  obtain ⟨j,y,h1,_,h3⟩:=v5.1 h;have:=ja h1;have h3:k=((0+j:Nat):Int):=h3;omega
theorem Hm (l:List gP) (i:Int):(lF l i).length≤l.length:=uF _ _ _ _
theorem Bw {N:Nat} (hN:gS≤N) {l:List gP} (h:Ar l) {i:Int} (h0:0≤i) (h9:i≤9):oC N l i=some (lF l i):=by
  obtain ⟨q1,q2⟩:=h.at h0 h9;have hB:=h.wF;unfold oC lF;rw [mB l (zO l i) (fun k _=>(k:Int)) hB hN]
  · rfl
  · intro k t y hy hk ht;simp only [iE hk,Om,ij,hy,Ok,q1,tG hN (HF (h.ok _ q2)),kp,jR,iK (Nat.lt_trans hk hB),j6 ht (Nat.lt_of_le_of_lt hk hB)]
    show (bif zO l i k y then _ else _)=_
    cases zO l i k y<;>rfl
  · intro t;simp only [iF,Ol]
theorem GV {l:List gP} (h:Ar l) {i:Int} (h0:0≤i) (h9:i≤9) (hk:(nth l i).N0=0):lF l i=[]:=by
  obtain ⟨_,q2⟩:=h.at h0 h9
  have hl:(nth l i).gX=[]:=by
    have:=h.ok _ q2;unfold j2 at this;simp only [hk,beq_self_eq_true,Om,Oq,decide_eq_true_eq] at this;rw [this.2.2];rfl
  rw [List.eq_nil_iff_forall_not_mem];intro k hm;obtain ⟨j,y,_,h2,_⟩:=v5.1 hm;simp [zO,hk,hl] at h2
theorem FM {N:Nat} (hN:gS≤N) {l:List gP} (hb:iQ hX l<gS) (hw:wA l) (h:Ar l) {i:Int} (h0:0≤i) (h9:i≤9):rf N l i=some (lF l i):=by
  obtain ⟨q1,q2⟩:=h.at h0 h9;have hB:=h.wF
  have hi:ia i 0 9=true:=by rw [iR];omega
  unfold rf;simp only [ra hN hb hw,j5.2 h,qR,hi,q1,Ok,On,Ol];cases hk:(nth l i).N0==0
  · simp only [Ol];unfold lF;rw [mB l (zO l i) (fun k _=>(k:Int)) hB hN]
    · rfl
    · intro k t y hy hk ht;simp only [iE hk,Om,ij,hy,Ok,wR hN (HF (h.ok _ q2)),kp,jR,iK (Nat.lt_trans hk hB),j6 ht (Nat.lt_of_le_of_lt hk hB)];unfold zO;cases decide ((k:Int) > 0)
      · cases (nth l i).gX.contains (k:Int)<;>rfl
      cases y.N0 != 0
      · cases (nth l i).gX.contains (k:Int)<;>rfl
      cases y.box==i
      · cases (nth l i).gX.contains (k:Int)<;>rfl
      · cases ((nth l i).N0==1)<;>cases (nth l i).gX.contains (k:Int)<;>rfl
    · intro t;simp only [iF,Ol]
  · rw [GV h h0 h9 (by simpa using hk)];rfl
inductive Reaches (l:List gP) (now:Int):Int→Prop
  | root:Reaches l now 0
  | step {i k:Int}:Reaches l now i→k ∈ lF l i→jg (nth l k) now=false→Reaches l now k
theorem Reaches.zj {l:List gP} {now:Int} (h:Ar l) {k:Int} (hr:Reaches l now k):0≤k∧k≤9:=by
  cases hr with
  | root=>omega
  | step _ h2 _=>have:=we h2;have:=h.len;omega
def sU:List Bool→Nat
  | []=>0
  | b::r=>(if b then 0 else 1)+sU r
theorem Fp:∀ {r:List Bool} {k:Nat},r[k]?=some false→sU (r.set k true)+1=sU r
  | b::r,0,h=>by simp at h;subst h;simp [sU];omega
  | b::r,k+1,h=>by
    have:=Fp (r:=r) (k:=k) (by simpa using h);simp only [List.set_cons_succ,sU];omega
def yc (r q:List Bool):Prop:=∀ k:Nat,r[k]?=some true→q[k]?=some true
theorem CS:∀ {r q:List Bool},r.length=q.length→yc r q→sU r≤sU q→r=q
  | [],[],_,_,_=>rfl
  | b::r,c::q,hl,h,hc=>by
    have hl':r.length=q.length:=by simpa using hl
    have h':yc r q:=fun k hk=>by simpa using h (k+1) (by simpa using hk)
    have key:∀ {r q:List Bool},r.length=q.length→yc r q→sU q≤sU r:=by
      intro r
      induction r with
      | nil=>intro q hl _;cases q with
        | nil=>exact Nat.le_refl _
        | cons=>simp at hl
      | cons b r ih =>
        intro q hl h
        cases q with
        | nil=>simp at hl
        | cons c q =>
          have:=ih (q:=q) (by simpa using hl) (fun k hk=>by simpa using h (k+1) (by simpa using hk));have h0:=h 0;simp at h0;simp only [sU];cases b<;>cases c<;>simp_all<;>omega
    have h0:=h 0;simp at h0;have:=key hl' h';simp only [sU] at hc;cases b<;>cases c
    · exact congrArg _ (CS hl' h' (by simpa using hc))
    · exfalso;simp at hc;omega
    · simp at h0
    · exact congrArg _ (CS hl' h' (by simpa using hc))
theorem Fl {r:List Bool} {k:Nat}:yc r (r.set k true):=fun j hj=>by
  rw [List.getElem?_set];split
  · rename_i e;subst e;rw [if_pos (ja hj)]
  · exact hj
theorem setAt {r:List Bool} {k j:Nat} (h:(r.set k true)[j]?=some true):j=k∨r[j]?=some true:=by
  rw [List.getElem?_set] at h;split at h
  · exact .inl (by omega)
  · exact .inr h
def vV (l:List gP) (now:Int) (r:List Bool) (y:Int):List Bool:=if jg (nth l y) now then r else r.set y.toNat true
def visit (l:List gP) (now:Int) (k:Nat) (r:List Bool) (o:gP):List Bool:=if !(nth r (k:Int)) || (jg o now&&decide ((k:Int) > 0)) then r else (lF l (k:Int)).foldl (vV l now) r
def ua (l:List gP) (now:Int) (r:List Bool):List Bool:=foldI (visit l now) 0 r l
def rl (l:List gP) (now:Int):Nat→List Bool→List Bool
  | 0,r=>r
  | n+1,r=>rl l now n (ua l now r)
def reach (l:List gP) (now:Int):List Bool:=if jJ l then rl l now 10 ((List.replicate 10 false).set 0 true) else []
theorem Bt (l:List gP) (now:Int) (r:List Bool) (y:Int):(vV l now r y).length=r.length:=by unfold vV;split<;>simp
theorem DN (l:List gP) (now:Int):∀ (e:List Int) (r:List Bool),(e.foldl (vV l now) r).length=r.length
  | [],r=>rfl
  | y::e,r=>by rw [List.foldl_cons,DN l now e,Bt]
theorem wc (l:List gP) (now:Int) (k:Nat) (r:List Bool) (o:gP):(visit l now k r o).length=r.length:=by
  unfold visit;split
  · rfl
  · exact DN _ _ _ _
theorem Lq (l:List gP) (now:Int) (r:List Bool) (y:Int):yc r (vV l now r y):=by
  unfold vV;split
  · exact fun _ h=>h
  · exact Fl
theorem A8 (l:List gP) (now:Int):∀ (e:List Int) (r:List Bool),yc r (e.foldl (vV l now) r)
  | [],r=>fun _ h=>h
  | y::e,r=>fun k hk=>A8 l now e _ k (Lq l now r y k hk)
theorem DQ (l:List gP) (now:Int) (k:Nat) (r:List Bool) (o:gP):yc r (visit l now k r o):=by
  unfold visit;split
  · exact fun _ h=>h
  · exact A8 _ _ _ _
theorem Da (l:List gP) (now:Int):∀ (e:List Int) (r:List Bool),(∀ y,y ∈ e→y.toNat<r.length)→∀ y,y ∈ e→jg (nth l y) now=false→(e.foldl (vV l now) r)[y.toNat]?=some true
  | z::e,r,hr,y,hy,hx=>by
    rw [List.foldl_cons]
    rcases List.mem_cons.1 hy with rfl | hy
    · refine A8 l now e _ _ ?_;unfold vV;rw [if_neg (by simp [hx]),List.getElem?_set_self (hr y (by simp))]
    · exact Da l now e _ (fun x h=>by rw [Bt];exact hr x (by simp [h])) y hy hx
def uR (l:List gP) (now:Int) (r:List Bool):Prop:=∀ k:Nat,r[k]?=some true→Reaches l now (k:Int)
theorem DF {l:List gP} {now i:Int} (hi:Reaches l now i):∀ (e:List Int) (r:List Bool),(∀ y,y ∈ e→y ∈ lF l i)→uR l now r→uR l now (e.foldl (vV l now) r)
  | [],r,_,h=>h
  | y::e,r,he,h=>by
    rw [List.foldl_cons];refine DF hi e _ (fun x hx=>he x (by simp [hx])) ?_;unfold vV;split
    · exact h
    · rename_i hx;intro k hk
      rcases setAt hk with q | q
      · have hy:=he y (by simp);have:=we hy
        have e:(k:Int)=y:=by omega
        rw [e];exact .step hi hy (by simpa using hx)
      · exact h k q
theorem zz {r:List Bool} {k:Nat}:nth r (k:Int)=true ↔ r[k]?=some true:=by
  unfold nth;rw [Int.toNat_natCast]
  cases h:r[k]? with
  | none=>simp;try rfl
  | some b=>simp
theorem yi {l:List gP} {now:Int} {k:Nat} {r:List Bool} {o:gP} (h:uR l now r):uR l now (visit l now k r o):=by
  unfold visit;split
  · exact h
  · rename_i hc;simp only [Bool.or_eq_true,Bool.not_eq_true',not_or,Bool.not_eq_false] at hc;exact DF (h k (zz.1 hc.1)) _ _ (fun _ hy=>hy) h
theorem wB {l:List gP} {now:Int}:∀ (m:List gP) (k:Nat) (r:List Bool),uR l now r→(foldI (visit l now) k r m).length=r.length∧yc r (foldI (visit l now) k r m)∧uR l now (foldI (visit l now) k r m)
  | [],k,r,h=>⟨rfl,fun _ h=>h,h⟩
  | o::m,k,r,h=>by
    obtain ⟨h1,h2,h3⟩:=wB m (k+1) (visit l now k r o) (yi h);exact ⟨by unfold foldI;rw [h1,wc],fun j hj=>h2 j (DQ l now k r o j hj),h3⟩
def AV (l:List gP) (now:Int) (r q:List Bool):Prop:=∀ i:Nat,r[i]?=some true→∀ y,y ∈ lF l (i:Int)→jg (nth l y) now=false→q[y.toNat]?=some true
theorem GK {l:List gP} {now:Int} (h:Ar l) {k:Int} (hr:Reaches l now k) (hk:k ≠ 0):jg (nth l k) now=false:=by
  cases hr with
  | root=>exact absurd rfl hk
  | step _ _ h3=>exact h3
theorem BK {l:List gP} {now:Int} (h:Ar l):∀ (m:List gP) (k:Nat) (r q:List Bool),(∀ j:Nat,m[j]?=l[k+j]?)→r.length=10→uR l now r→yc q r→∀ i:Nat,k≤i→q[i]?=some true→∀ y,y ∈ lF l (i:Int)→jg (nth l y) now=false→(foldI (visit l now) k r m)[y.toNat]?=some true
  | [],k,r,q,hm,hr,hs,hq,i,hi,hqi,y,hy,hx=>by
    have:=(hs i (hq i hqi)).zj h;have h2:=hm (i - k);rw [show k+(i - k)=i by omega] at h2;have:=h.len;rw [List.getElem?_eq_getElem (show i<l.length by omega)] at h2;simp at h2
  | o::m,k,r,q,hm,hr,hs,hq,i,hi,hqi,y,hy,hx=>by
    have ho:l[k]?=some o:=by have:=hm 0;simpa using this.symm
    unfold foldI
    rcases Nat.eq_or_lt_of_le hi with e | hlt
    · subst e;refine (wB m (k+1) _ (yi hs)).2.1 _ ?_;have hk:nth r (k:Int)=true:=zz.2 (hq k hqi)
      have hn:(jg o now&&decide ((k:Int) > 0))=false:=by
        by_cases h0:k=0
        · subst h0;simp
        · have:=GK h (hs k (hq k hqi)) (by omega);rw [CV ho] at this;simp [this]
      unfold visit;rw [if_neg (by rw [hk,hn];decide)];exact Da l now _ r (fun z hz=>by have:=we hz;have:=h.len;omega) y hy hx
    · exact BK h m (k+1) (visit l now k r o) q (fun j=>by have:=hm (j+1);rw [show k+1+j=k+(j+1) by omega, ← this];rfl) (by rw [wc,hr]) (yi hs) (fun j hj=>DQ l now k r o j (hq j hj)) i hlt hqi y hy hx
theorem yp {l:List gP} {now:Int} (h:Ar l):∀ (n:Nat) (r:List Bool),r.length=10→uR l now r→(rl l now n r).length=10∧yc r (rl l now n r)∧uR l now (rl l now n r)∧(sU r<n→AV l now (rl l now n r) (rl l now n r))
  | 0,r,hr,hs=>⟨hr,fun _ h=>h,hs,fun h=>by omega⟩
  | n+1,r,hr,hs=>by
    obtain ⟨p1,p2,p3⟩:=wB (l:=l) (now:=now) l 0 r hs;have p4:=fun i hi=>BK h l 0 r r (fun j=>by rw [Nat.zero_add]) hr hs (fun _ h=>h) i (Nat.zero_le _) hi;obtain ⟨q1,q2,q3,q4⟩:=yp h n (ua l now r) (by unfold ua;rw [p1,hr]) p3;refine ⟨q1,fun k hk=>q2 k (p2 k hk),q3,fun hc=>?_⟩
    by_cases hcl:sU (ua l now r)<n
    · exact q4 hcl
    · have e:r=ua l now r:=CS p1.symm p2 (by omega)
      have fix:∀ m,rl l now m r=r:=by
        intro m
        induction m with
        | zero=>rfl
        | succ m ih=>unfold rl;rw [← e,ih]
      rw [fix (n+1)];intro i hi y hy hx;have:=p4 i hi y hy hx
      rwa [show foldI (visit l now) 0 r l=r from e.symm] at this
def J9 (l:List gP) (now:Int) (r:List Bool):Prop:=r.length=10∧∀ k:Nat,r[k]?=some true ↔ Reaches l now (k:Int)
theorem HM {l:List gP} {now:Int} (h:Ar l) {r:List Bool} (hl:r.length=10) (hs:uR l now r) (h0:r[0]?=some true) (hc:AV l now r r):J9 l now r:=by
  refine ⟨hl,fun k=>⟨hs k,fun hr=>?_⟩⟩
  have key:∀ j:Int,Reaches l now j→r[j.toNat]?=some true:=by
    intro j hj
    induction hj with
    | root=>exact h0
    | step h1 h2 h3 ih =>
      rename_i i k;have:=(Reaches.zj h h1);refine hc i.toNat ih k ?_ h3
      rwa [show ((i.toNat:Nat):Int)=i by omega]
  simpa using key k hr
theorem LD {l:List gP} {now:Int} {r q:List Bool} (h1:J9 l now r) (h2:J9 l now q):r=q:=by
  apply List.ext_getElem? fun k=>?_
  rcases Nat.lt_or_ge k 10 with hk | hk
  · have e:r[k]?=some true ↔ q[k]?=some true:=(h1.2 k).trans (h2.2 k).symm;rw [List.getElem?_eq_getElem (by rw [h1.1];exact hk),List.getElem?_eq_getElem (by rw [h2.1];exact hk)] at e ⊢;generalize r[k]'(by rw [h1.1];exact hk)=a at *;generalize q[k]'(by rw [h2.1];exact hk)=b at *;cases a<;>cases b<;>simp_all
  · rw [List.getElem?_eq_none (by rw [h1.1];exact hk),List.getElem?_eq_none (by rw [h2.1];exact hk)]
theorem IM (l:List gP) (now:Int):uR l now ((List.replicate 10 false).set 0 true):=fun k hk=>by
  rcases setAt hk with q | q
  · subst q;exact .root
  · rw [List.getElem?_replicate] at q;split at q<;>simp at q
theorem D2 {l:List gP} (h:Ar l) (now:Int):J9 l now (reach l now):=by
  unfold reach;rw [if_pos (j5.2 h)];obtain ⟨q1,q2,q3,q4⟩:=yp (now:=now) h 10 ((List.replicate 10 false).set 0 true) rfl (IM l now);exact HM h q1 q3 (q2 0 rfl) (q4 (by decide))
theorem pg {l:List gP} (h:Ar l) (now:Int):(reach l now).length=10:=(D2 h now).1
theorem xU {l:List gP} {now:Int}:∀ (m:List gP) (k:Nat) (r:List Bool),(foldI (visit l now) k r m).length=r.length
  | [],k,r=>rfl
  | o::m,k,r=>by unfold foldI;rw [xU m,wc]
theorem KS {N:Nat} (hN:gS≤N) {l:List gP} (h:Ar l) {now:Int} {e:List Int} (he:∀ y,y ∈ e→0≤y∧y≤9) (hl:e.length≤10) {r:List Bool} (hr:r.length=10) :
    iter (fun (s67:(List Bool)×Int)=>(bif (decide (s67.2<(e.length:Int))) then ((idx e s67.2).bind fun y70=>(idx l y70).bind fun y83=>bif (!(jg y83 now)) then ((idx s67.1 y70).bind fun y104=>some (.inl (s67.1.set (y70:Int).toNat true,i64.wrap (s67.2+1)))) else (some (.inl (s67.1,i64.wrap (s67.2+1))))) else (some (.inr (s67.1,s67.2))):Option (((List Bool)×Int)⊕((List Bool)×Int)))) N (r,0)=some (e.foldl (vV l now) r,(e.length:Int)):=by
  have hB:e.length<gS:=Nat.lt_of_le_of_lt hl (by decide)
  rw [show (r,(0:Int))=(fun (k:Nat) (t:List Bool)=>(t,(k:Int))) 0 r from rfl,
    jM e (fun (k:Nat) (t:List Bool)=>(t,(k:Int))) (fun _ t y=>vV l now t y) (fun t=>(t,(e.length:Int))) (fun _ t=>t.length=10) ?_ ?_ (Nat.lt_of_lt_of_le hB hN) hr,kX]
  · intro k t y hy hk ht;obtain ⟨y0,y9⟩:=he y (List.mem_of_getElem? hy);refine ⟨?_,by rw [Bt,ht]⟩;simp only [iE hk,Om,ij,hy,Ok,(h.at y0 y9).1,uh,iK (Nat.lt_trans hk hB),iT (l:=t) y0 (by omega)];unfold vV;cases jg (nth l y) now<;>rfl
  · intro t _;simp only [iF,Ol]
theorem tV {l:List gP} (h:Ar l) (i:Int):(∀ y,y ∈ lF l i→0≤y∧y≤9)∧(lF l i).length≤10:=by
  have:=h.len;refine ⟨fun y hy=>by have:=we hy;omega,by have:=Hm l i;omega⟩
theorem FD {N:Nat} (hN:gS≤N) {l:List gP} (hb:iQ hX l<gS) (hw:wA l) (now:Int):sV N l now=some (reach l now):=by
  unfold sV reach;rw [ra hN hb hw,Ok];cases ha:jJ l
  · rfl
  have h:=j5.1 ha;have hB:=h.wF;simp only [On,Ol,if_true];rw [show mk Bool 10=some (List.replicate 10 false) from rfl];simp only [Ok];rw [show idx (List.replicate 10 false) 0=some false from rfl];simp only [Ok]
  have hin:∀ r:List Bool,r.length=10→iter (fun (s21:(List Bool)×Int)=>(bif (decide (s21.2<(l.length:Int))) then (((idx s21.1 s21.2).bind fun y26=>bif (!y26) then (some true) else ((idx l s21.2).bind fun y40=>(lG N y40 now).bind fun y58=>bif y58 then (some (decide (s21.2 > 0))) else (some false)):Option Bool).bind fun j24=>bif j24 then (some (.inl (s21.1,i64.wrap (s21.2+1)))) else ((rf N l s21.2).bind fun y63=>(iter (fun (s67:(List Bool)×Int)=>(bif (decide (s67.2<(y63.length:Int))) then ((idx y63 s67.2).bind fun y70=>(idx l y70).bind fun y83=>(lG N y83 now).bind fun y101=>bif (!y101) then ((idx s67.1 y70).bind fun y104=>some (.inl (s67.1.set (y70:Int).toNat true,i64.wrap (s67.2+1)))) else (some (.inl (s67.1,i64.wrap (s67.2+1))))) else (some (.inr (s67.1,s67.2))):Option (((List Bool)×Int)⊕((List Bool)×Int)))) N (s21.1,0)).bind fun o111=>some (.inl (o111.1,i64.wrap (s21.2+1))))) else (some (.inr (s21.1,s21.2))):Option (((List Bool)×Int)⊕((List Bool)×Int)))) N (r,0)=some (ua l now r,(l.length:Int)):=by
    intro r hr
    rw [show (r,(0:Int))=(fun (k:Nat) (t:List Bool)=>(t,(k:Int))) 0 r from rfl,
      jM l (fun (k:Nat) (t:List Bool)=>(t,(k:Int))) (fun k t y=>visit l now k t y) (fun t=>(t,(l.length:Int))) (fun _ t=>t.length=10) ?_ ?_ (Nat.lt_of_lt_of_le hB hN) hr]
    · rfl
    · intro k t y hy hk ht
      have hk10:k<10:=by rw [← h.len];exact hk
      refine ⟨?_,by rw [wc,ht]⟩;simp only [iE hk,Om];rw [iT (l:=t) (i:=(k:Int)) (by omega) (by omega)];simp only [ij,hy,Ok,uh,iK (Nat.lt_trans hk hB)];rw [FM hN hb hw h (i:=(k:Int)) (by omega) (by omega),Ok,KS hN h (tV h _).1 (tV h _).2 ht];unfold visit;cases nth t (k:Int)<;>cases jg y now<;>cases decide ((k:Int) > 0)<;>rfl
    · intro t _;simp only [iF,Ol]
  have hout:∀ (n:Nat) (j:Nat) (r:List Bool),r.length=10→foldI (fun _ t (_:Unit)=>ua l now t) j r (List.replicate n ())=rl l now n r:=by
    intro n
    induction n with
    | zero=>intro j r _;rfl
    | succ n ih=>intro j r hr;rw [List.replicate_succ];unfold foldI rl;exact ih _ _ (by
        have:=xU (l:=l) (now:=now) l 0 r
        unfold ua;rw [this,hr])
  rw [show (((List.replicate 10 false).set (0:Int).toNat true,(0:Int)):List Bool×Int)=(fun (k:Nat) (t:List Bool)=>(t,(k:Int))) 0 ((List.replicate 10 false).set 0 true) from rfl,
    jM (List.replicate 10 ()) (fun (k:Nat) (t:List Bool)=>(t,(k:Int))) (fun _ t _=>ua l now t) (fun t=>(t,(10:Int))) (fun _ t=>t.length=10) ?_ ?_ (Ml (k:=0) hN (by decide)) rfl,hout 10 0 _ rfl]
  · rfl
  · intro k t y hy hk ht
    have hk:k<10:=by simpa using hk
    refine ⟨?_,by have:=xU (l:=l) (now:=now) l 0 t;unfold ua;rw [this,ht]⟩
    have h3:decide ((k:Int)<10)=true:=by simp;omega
    simp only [h3,Om];rw [hin t ht];simp only [Ok,iK (show k<gS from Nat.lt_trans hk (by decide))]
  · intro t _;rfl
def push (l:List gP) (now:Int) (s:List Bool×List Int) (y:Int):List Bool×List Int:=if !(nth s.1 y)&&!jg (nth l y) now then (s.1.set y.toNat true,s.2++[y]) else s
theorem BT {r:List Bool} {y:Int} (h0:0≤y):nth r y=true ↔ r[y.toNat]?=some true:=by
  have:=zz (r:=r) (k:=y.toNat)
  rwa [show ((y.toNat:Nat):Int)=y by omega] at this
theorem xj {l:List gP} {now i:Int} (hi:Reaches l now i):∀ (e:List Int) (s:List Bool×List Int),(∀ y,y ∈ e→y ∈ lF l i∧0≤y∧y≤9)→s.1.length=10→uR l now s.1 →
    let z:=e.foldl (push l now) s
    z.1.length=10∧uR l now z.1∧yc s.1 z.1∧z.2.length+sU z.1=s.2.length+sU s.1∧(∀ y,y ∈ e→jg (nth l y) now=false→z.1[y.toNat]?=some true)∧(∀ y,y ∈ s.2→y ∈ z.2) ∧
      (∀ y,y ∈ z.2→y ∈ s.2∨(0≤y∧z.1[y.toNat]?=some true))∧(∀ k:Nat,z.1[k]?=some true→s.1[k]?=some true∨(k:Int) ∈ z.2)
  | [],s,_,h1,h2=>⟨h1,h2,fun _ h=>h,rfl,fun _ h=>absurd h (by simp),fun _ h=>h,fun _ h=>.inl h,fun _ h=>.inl h⟩
  | y::e,s,he,h1,h2=>by
    obtain ⟨e1,e2,e3⟩:=he y (by simp)
    have hlt:y.toNat<s.1.length:=by omega
    simp only [List.foldl_cons]
    by_cases hc:(!(nth s.1 y)&&!jg (nth l y) now)=true
    · have hp:push l now s y=(s.1.set y.toNat true,s.2++[y]):=by unfold push;rw [if_pos hc]
      simp only [Oq,Bool.not_eq_true'] at hc
      have hf:s.1[y.toNat]?=some false:=by
        have:¬ s.1[y.toNat]?=some true:=fun q=>by rw [(BT e2).2 q] at hc;simp at hc
        rw [List.getElem?_eq_getElem hlt] at this ⊢;cases hb:s.1[y.toNat]<;>simp_all
      have hs:uR l now (s.1.set y.toNat true):=fun k hk=>by
        rcases setAt hk with q | q
        · have e:(k:Int)=y:=by omega
          rw [e];exact .step hi e1 hc.2
        · exact h2 k q
      rw [hp];obtain ⟨a1,a2,a3,a4,a5,a6,a7,a8⟩:=xj hi e (s.1.set y.toNat true,s.2++[y]) (fun x hx=>he x (by simp [hx])) (by simpa using h1) hs;have hy:(e.foldl (push l now) (s.1.set y.toNat true,s.2++[y])).1[y.toNat]?=some true:=a3 _ (List.getElem?_set_self hlt);refine ⟨a1,a2,fun k hk=>a3 k (Fl k hk),?_,fun x hx hxx=>?_,fun x hx=>a6 x (by simp [hx]),fun x hx=>?_,fun k hk=>?_⟩
      · have:=Fp hf;simp only [List.length_append,List.length_cons,List.length_nil] at a4;omega
      · rcases List.mem_cons.1 hx with rfl | hx
        · exact hy
        · exact a5 x hx hxx
      · rcases a7 x hx with q | q
        · rcases List.mem_append.1 q with q | q
          · exact .inl q
          · simp at q;subst q;exact .inr ⟨e2,hy⟩
        · exact .inr q
      · rcases a8 k hk with q | q
        · rcases setAt q with q | q
          · refine .inr (a6 (k:Int) ?_)
            have e:(k:Int)=y:=by omega
            simp [e]
          · exact .inl q
        · exact .inr q
    · have hp:push l now s y=s:=by unfold push;rw [if_neg hc]
      rw [hp];obtain ⟨a1,a2,a3,a4,a5,a6,a7,a8⟩:=xj hi e s (fun x hx=>he x (by simp [hx])) h1 h2;refine ⟨a1,a2,a3,a4,fun x hx hxx=>?_,a6,a7,a8⟩
      rcases List.mem_cons.1 hx with rfl | hx
      · refine a3 _ ((BT e2).1 ?_);cases hn:nth s.1 x
        · exact absurd (show (!(nth s.1 x)&&!jg (nth l x) now)=true by simp [hn,hxx]) hc
        · rfl
      · exact a5 x hx hxx
theorem BY (l:List gP) (now:Int):∀ (e:List Int) (s:List Bool×List Int),s.2.length≤(e.foldl (push l now) s).2.length
  | [],s=>Nat.le_refl _
  | y::e,s=>by
    rw [List.foldl_cons];refine Nat.le_trans ?_ (BY l now e _);unfold push;split<;>simp
theorem Jq {N:Nat} (hN:gS≤N) {l:List gP} (h:Ar l) {now:Int} {e:List Int} (he:∀ y,y ∈ e→0≤y∧y≤9) (hl:e.length≤10) {r:List Bool} (hr:r.length=10) {t:List Int} (ht:t.length≤100) :
    iter (fun (s45:(List Bool)×(List Int)×Int)=>(bif (decide (s45.2.2<(e.length:Int))) then ((idx e s45.2.2).bind fun y48=>((idx s45.1 y48).bind fun y63=>bif (!y63) then ((idx l y48).bind fun y77=>(mn N y77 now).bind fun y95=>some (!y95)) else (some false):Option Bool).bind fun j61=>bif j61 then ((idx s45.1 y48).bind fun y99=>(app s45.2.1 [y48]).bind fun y106=>some (.inl (s45.1.set (y48:Int).toNat true,y106,i64.wrap (s45.2.2+1)))) else (some (.inl (s45.1,s45.2.1,i64.wrap (s45.2.2+1))))) else (some (.inr (s45.1,s45.2.1,s45.2.2))):Option (((List Bool)×(List Int)×Int)⊕((List Bool)×(List Int)×Int)))) N (r,t,0) =
      some ((e.foldl (push l now) (r,t)).1,(e.foldl (push l now) (r,t)).2,(e.length:Int)):=by
  have hB:e.length<gS:=Nat.lt_of_le_of_lt hl (by decide)
  rw [show (r,t,(0:Int))=(fun (k:Nat) (s:List Bool×List Int)=>(s.1,s.2,(k:Int))) 0 (r,t) from rfl,
    jM e (fun (k:Nat) (s:List Bool×List Int)=>(s.1,s.2,(k:Int))) (fun _ s y=>push l now s y) (fun s=>(s.1,s.2,(e.length:Int))) (fun k s=>s.1.length=10∧s.2.length≤100+k) ?_ ?_ (Nat.lt_of_lt_of_le hB hN) ⟨hr,ht⟩,kX]
  · intro k s y hy hk ⟨i1,i2⟩;obtain ⟨y0,y9⟩:=he y (List.mem_of_getElem? hy)
    refine ⟨?_,by
      unfold push;split
      · simp only [List.length_set,List.length_append,List.length_cons,List.length_nil];omega
      · omega⟩
    have hkB:100+k+1<gS:=by have:(16777216:Nat)=gS:=rfl;omega
    simp only [iE hk,Om,ij,hy,Ok,(h.at y0 y9).1,wg,iK (Nat.lt_trans hk hB),iT (l:=s.1) y0 (by omega),j6 i2 hkB,kp];unfold push;cases (!(nth s.1 y)&&!jg (nth l y) now)<;>rfl
  · intro s _;simp only [iF,Ol]
theorem FE {N:Nat} (hN:gS≤N) {l:List gP} (hb:iQ hX l<gS) (now:Int):sS N l now=some (reach l now):=by
  unfold sS;rw [uB hN hb,Ok];cases ha:jJ l
  · unfold reach;rw [ha];rfl
  have h:=j5.1 ha;simp only [On,Ol];rw [show mk Bool 10=some (List.replicate 10 false) from rfl];simp only [Ok];rw [show idx (List.replicate 10 false) 0=some false from rfl];simp only [Ok]
  obtain ⟨z,hz,hz1,hz2,hz3,hz4⟩:=CP (body:=fun (s18:(List Bool)×(List Int))=>(bif (decide ((s18.2.length:Int) > 0)) then ((idx s18.2 0).bind fun y21=>(sub s18.2 1 (s18.2.length:Int)).bind fun y34=>(oC N l y21).bind fun y41=>(iter (fun (s45:(List Bool)×(List Int)×Int)=>(bif (decide (s45.2.2<(y41.length:Int))) then ((idx y41 s45.2.2).bind fun y48=>((idx s45.1 y48).bind fun y63=>bif (!y63) then ((idx l y48).bind fun y77=>(mn N y77 now).bind fun y95=>some (!y95)) else (some false):Option Bool).bind fun j61=>bif j61 then ((idx s45.1 y48).bind fun y99=>(app s45.2.1 [y48]).bind fun y106=>some (.inl (s45.1.set (y48:Int).toNat true,y106,i64.wrap (s45.2.2+1)))) else (some (.inl (s45.1,s45.2.1,i64.wrap (s45.2.2+1))))) else (some (.inr (s45.1,s45.2.1,s45.2.2))):Option (((List Bool)×(List Int)×Int)⊕((List Bool)×(List Int)×Int)))) N (s18.1,y34,0)).bind fun o111=>some (.inl (o111.1,o111.2.1))) else (some (.inr (s18.1,s18.2))):Option (((List Bool)×(List Int))⊕((List Bool)×(List Int)))))
    (fun s=>s.2.length+2 * sU s.1)
    (fun s=>s.1.length=10∧uR l now s.1∧s.1[0]?=some true∧s.2.length+sU s.1≤10∧(∀ y,y ∈ s.2→0≤y∧s.1[y.toNat]?=some true)∧∀ i:Nat,s.1[i]?=some true→(i:Int) ∈ s.2∨∀ y,y ∈ lF l (i:Int)→jg (nth l y) now=false→s.1[y.toNat]?=some true)
    (fun s=>s.1.length=10∧uR l now s.1∧s.1[0]?=some true∧AV l now s.1 s.1)
    (fun s hI=>by
      obtain ⟨r,t⟩:=s;obtain ⟨i1,i2,i3,i4,i5,i6⟩:=hI;simp only at i1 i2 i3 i4 i5 i6
      cases t with
      | nil=>exact .inr ⟨(r,[]),rfl,i1,i2,i3,fun i hi=>by have:=i6 i hi;simpa using this⟩
      | cons x t =>
        left;obtain ⟨x0,xr⟩:=i5 x (by simp)
        have hx:Reaches l now x:=by have:=i2 x.toNat xr;rwa [show ((x.toNat:Nat):Int)=x by omega] at this
        obtain ⟨_,x9⟩:=hx.zj h
        have hsub:sub (x::t) 1 ((x::t).length:Int)=some t:=by
          unfold sub;rw [if_pos ⟨by omega,by simp only [List.length_cons];omega,Int.le_refl _⟩];simp
        obtain ⟨e1,e2⟩:=tV h x
        have hpos:decide (((x::t).length:Int) > 0)=true:=by simp
        obtain ⟨a1,a2,a3,a4,a5,a6,a7,a8⟩:=xj hx (lF l x) (r,t) (fun y hy=>⟨hy,e1 y hy⟩) i1 i2;simp only [List.length_cons] at i4;refine ⟨(lF l x).foldl (push l now) (r,t),?_,⟨a1,a2,a3 0 i3,by simp only at a4;omega,fun y hy=>?_,fun i hi=>?_⟩,?_⟩
        · simp only [hpos,Om];rw [show idx (x::t) 0=some x from rfl];simp only [Ok,hsub];rw [Bw hN h x0 x9,Ok,Jq hN h e1 e2 i1 (by omega)];rfl
        · rcases a7 y hy with q | q
          · obtain ⟨q1,q2⟩:=i5 y (by simp [show y ∈ t from q]);exact ⟨q1,a3 _ q2⟩
          · exact q
        · rcases a8 i hi with q | q
          · rcases i6 i q with q | q
            · rcases List.mem_cons.1 q with q | q
              · rw [q];exact .inr a5
              · exact .inl (a6 _ q)
            · exact .inr fun y hy hyx=>a3 _ (q y hy hyx)
          · exact .inl q
        · simp only [List.length_cons] at a4 ⊢
          have hle:sU ((lF l x).foldl (push l now) (r,t)).1≤sU r:=by
            have:t.length≤((lF l x).foldl (push l now) (r,t)).2.length:=BY l now (lF l x) (r,t);omega
          omega)
    N ((List.replicate 10 false).set 0 true,[0]) ⟨rfl,IM l now,rfl,by decide,fun y hy=>by simp at hy;subst hy;exact ⟨by decide,rfl⟩,fun i hi=>by
      rcases setAt hi with q | q
      · subst q;exact .inl (by simp)
      · rw [List.getElem?_replicate] at q;split at q<;>simp at q⟩ (by have:16777216≤N:=hN;simp only [show sU ((List.replicate 10 false).set 0 true)=9 from rfl,List.length_cons,List.length_nil];omega)
  rw [show ((List.replicate 10 false).set (0:Int).toNat true)=(List.replicate 10 false).set 0 true from rfl,hz,Ok];exact congrArg some (LD (HM h hz1 hz2 hz3 hz4) (D2 h now))
theorem mC {h:g5} (q:j9 h=true):Ar h.ag:=by
  unfold j9 at q;simp only [Oq] at q;exact j5.1 q.1
def threads (p:cd) (now:Int):List Int:=if jd p then lZ (fun k b=>b&&((nth p.py.ag (k:Int)).N0==4)) (fun k _=>(k:Int)) 0 (reach p.py.ag now) else []
theorem jF {p:cd} (h:jd p=true):Ar p.py.ag:=by
  unfold jd j9 at h;simp only [Oq] at h;exact j5.1 h.2.2.2.1.1
theorem mw {p:cd} {now k:Int} (h:k ∈ threads p now):jd p=true∧0≤k∧k≤9:=by
  unfold threads at h;split at h
  · rename_i hp;obtain ⟨j,b,h1,_,h3⟩:=v5.1 h;have:=ja h1;rw [pg (jF hp)] at this;have h3:k=((0+j:Nat):Int):=h3;exact ⟨hp,by omega,by omega⟩
  · simp at h
theorem yZ {N:Nat} (hN:gS≤N) {l:List gP} (h:Ar l) {now:Int} {body:List Int×Int→Option ((List Int×Int)⊕(List Int×Int))}
    (hs:∀ (k:Nat) (t:List Int) (b:Bool),(reach l now)[k]?=some b→k<10→t.length≤k→body (t,(k:Int))=some (.inl (if b&&((nth l (k:Int)).N0==4) then t++[(k:Int)] else t,((k+1:Nat):Int))))
    (he:∀ t,body (t,10)=some (.inr (t,10))):iter body N ([],0)=some (lZ (fun k b=>b&&((nth l (k:Int)).N0==4)) (fun k _=>(k:Int)) 0 (reach l now),10):=by
  have hl:=pg h now
  have e:((reach l now).length:Int)=10:=by omega
  rw [mB (reach l now) (fun k b=>b&&((nth l (k:Int)).N0==4)) (fun k _=>(k:Int)) (by rw [hl];decide) hN,e]
  · intro k t b hb hk ht;exact hs k t b hb (by omega) ht
  · intro t;rw [e];exact he t
theorem yk {N:Nat} (hN:gS≤N) {p:cd} (hb:ic p<gS) (now:Int):oF N p now=some (threads p now):=by
  unfold oF threads;rw [sK hN hb,Ok];cases hp:jd p
  · rfl
  have h:=jF hp;have hl:=pg h now;simp only [On,Ol,FE hN (jK hb).2.2.2.1,Ok,if_true];rw [yZ hN h]
  · rfl
  · intro k t b hy hk ht
    have hd:decide ((k:Int)<((reach p.py.ag now).length:Int))=true:=by simp;omega
    simp only [hd,Om];rw [(h.at (i:=(k:Int)) (by omega) (by omega)).1];simp only [ij,hy,Ok,kp,iK (show k<gS from Nat.lt_trans hk (by decide)),j6 ht (show k+1<gS from Nat.lt_trans (Nat.succ_lt_succ hk) (by decide))];cases (b&&((nth p.py.ag (k:Int)).N0==4))<;>rfl
  · intro t;simp only [hl];rfl
theorem ym {N:Nat} (hN:gS≤N) {p:cd} (hb:ic p<gS) (hw:wP p) (now:Int):ox N p now=some (threads p now):=by
  unfold ox threads;rw [sF hN hb hw,Ok];cases hp:jd p
  · rfl
  have h:=jF hp;have hl:=pg h now;simp only [On,Ol,FD hN (jK hb).2.2.2.1 hw,Ok,if_true];rw [yZ hN h]
  · rfl
  · intro k t b hy hk ht
    have hd:decide ((k:Int)<((reach p.py.ag now).length:Int))=true:=by simp;omega
    simp only [hd,Om];rw [(h.at (i:=(k:Int)) (by omega) (by omega)).1];simp only [ij,hy,Ok,kp,iK (show k<gS from Nat.lt_trans hk (by decide)),j6 ht (show k+1<gS from Nat.lt_trans (Nat.succ_lt_succ hk) (by decide))];cases (b&&((nth p.py.ag (k:Int)).N0==4))<;>rfl
  · intro t;simp only [hl];rfl
theorem qp (p:cd) (now:Int):(threads p now).length<gS:=by
  unfold threads;split
  · rename_i hp;refine Nat.lt_of_le_of_lt (uF _ _ _ _) ?_;rw [pg (jF hp)];decide
  · decide
def l7 (p:cd) (now:Int) (th:Int):Bool:=(threads p now).contains th&&((nth p.py.ag th).N9==0)
theorem B5 {N:Nat} (hN:gS≤N) {p:cd} (hb:ic p<gS) (now th:Int):qg N p now th=some (l7 p now th):=by
  unfold qg l7;simp only [yk hN hb,Ok,tG hN (qp p now)];cases hc:(threads p now).contains th
  · rfl
  · obtain ⟨h1,h2,h3⟩:=mw (List.contains_iff_mem.1 hc);simp only [Om,((jF h1).at h2 h3).1,Ok,Oo]
theorem BA {N:Nat} (hN:gS≤N) {p:cd} (hb:ic p<gS) (hw:wP p) (now th:Int):qn N p now th=some (l7 p now th):=by
  unfold qn l7;simp only [ym hN hb hw,Ok,wR hN (qp p now)];cases hc:(threads p now).contains th
  · rfl
  · obtain ⟨h1,h2,h3⟩:=mw (List.contains_iff_mem.1 hc);simp only [Om,((jF h1).at h2 h3).1,Ok,Oo]
end Go.Kx
namespace Go.Kx
open Go
open Go.IntKind (i64)
set_option linter.unusedVariables false
set_option linter.unusedSimpArgs false
set_option maxRecDepth 10000
theorem yz {α:Type} {f:α→Nat} {c:Nat}:∀ {l:List α},(∀ y,y ∈ l→f y≤c)→iV f l≤c * l.length
  | [],_=>Nat.zero_le _
  | y::l,h=>by
    have h1:=h y (by simp);have h2:=yz (l:=l) fun z hz=>h z (by simp [hz]);simp only [iV,List.length_cons,Nat.mul_add];omega
theorem CH {α:Type} {f:α→Nat} {y:α}:∀ {l:List α} {k:Nat},iV f (l.set k y)≤iV f l+f y
  | [],k=>by simp [iV]
  | z::l,0=>by simp only [List.set_cons_zero,iV];omega
  | z::l,k+1=>by
    have:=CH (f:=f) (y:=y) (l:=l) (k:=k);simp only [List.set_cons_succ,iV];omega
theorem w6 {α:Type} {f:α→Nat} {y:α} {l:List α} {k:Nat}:iQ f (l.set k y)≤iQ f l+f y:=by
  have:=CH (f:=f) (y:=y) (l:=l) (k:=k);unfold iQ;simp only [List.length_set];omega
theorem xw {o:gP} (h:j2 o=true):hX o≤12:=by
  have hl:=(ub h).1;unfold j2 at h;unfold hX;cases hk:o.N0==0
  · simp only [hk,Ol,Oq] at h;obtain ⟨_,_,_,_,_,hp,hl2,_⟩:=h;unfold sR at hl2;simp only [Oq,decide_eq_true_eq,beq_iff_eq] at hl2;obtain ⟨_,_,_,_,hd,hq⟩:=hl2;rw [iR] at hp
    have:o.N8.length≤8:=by
      cases h2:o.N0==2
      · rw [h2] at hd;simp only [Ol] at hd;omega
      · rw [h2] at hd;simp only [Om] at hd;omega
    have:o.N4.length≤2:=by
      cases h3:o.N0==3
      · rw [h3] at hq;simp only [Ol] at hq;omega
      · rw [h3] at hq;simp only [Om] at hq;omega
    omega
  · simp only [hk,Om,Oq,decide_eq_true_eq] at h;rw [h.2.2];simp [blank]
theorem Ar.sz {l:List gP} (h:Ar l):iQ hX l≤130:=by
  have h1:=yz (f:=hX) (c:=12) fun y hy=>xw (h.ok y hy);have h2:=h.len;unfold iQ;rw [h2] at h1 ⊢;omega
theorem kr {l:List gP} {k:Nat} {o:gP} (h:wA l) (ho:nB o):wA (l.set k o):=fun y hy=>by
  rcases List.mem_or_eq_of_mem_set hy with q | q
  · exact h y q
  · rw [q];exact ho
def ks (o:gP) (g:Int):gP:=gP.mk g o.N0 o.box o.Od o.iw o.gE o.N9 o.iv o.iu o.Ob o.gX o.N8 o.N4
def putAt (l:List gP) (o:gP) (k:Nat) (x:gP):List gP×Int:=if jJ (l.set k (ks o (i64.wrap (x.Oe+1))))&&(o.N0 != 0) then (l.set k (ks o (i64.wrap (x.Oe+1))),(k:Int)) else (l, -1)
def u5 (l:List gP) (o:gP):Nat→List gP→List gP×Int
  | _,[]=>(l, -1)
  | k,x::m=>if x.N0 != 0 || decide (x.Oe ≥ 999) then u5 l o (k+1) m else putAt l o k x
def kG (l:List gP) (o:gP):List gP×Int:=if jJ l then u5 l o 1 (l.drop 1) else (l, -1)
theorem AQ {l:List gP} {o:gP} (h:(o.N0 != 0)=false):∀ (m:List gP) (k:Nat),u5 l o k m=(l, -1)
  | [],k=>rfl
  | x::m,k=>by
    unfold u5 putAt;rw [h,AQ h m];simp
theorem Dm {ρ:Type} {body:Int→Option (Int⊕ρ)} (l:List gP) (p:gP→Bool) (g:Nat→gP→ρ) (r:ρ) {N:Nat} (hN:l.length+1<N) (hl:1≤l.length)
    (hs:∀ (k:Nat) (x:gP),l[k]?=some x→1≤k→k<l.length→body (k:Int)=some (if p x then .inl ((k+1:Nat):Int) else .inr (g k x))) (he:body (l.length:Int)=some (.inr r)) :
    iter body N 1=some (kR (fun k (_:Unit) x=>if p x then .inl () else .inr (g (k+1) x)) (fun _=>r) 0 () (l.drop 1)):=by
  have hd:(l.drop 1).length+1=l.length:=by simp;omega
  rw [show (1:Int)=(fun (k:Nat) (_:Unit)=>((k+1:Nat):Int)) 0 () from rfl,
    lD (l.drop 1) (fun (k:Nat) (_:Unit)=>((k+1:Nat):Int)) (fun k _ x=>if p x then .inl () else .inr (g (k+1) x)) (fun _=>r) (fun _ _=>True) ?_ ?_ (by omega) trivial]
  · intro k _ x hx hk _
    have hx:l[k+1]?=some x:=by rw [← hx,List.getElem?_drop,Nat.add_comm]
    refine ⟨?_,fun _ _=>trivial⟩
    show body ((k+1:Nat):Int)=_
    rw [hs (k+1) x hx (by omega) (by omega)];cases p x<;>rfl
  · intro _ _;simp only [hd];exact he
theorem Ba {ρ:Type} (l:List gP) (o:gP) (r:ρ) (c:ρ→Option (List gP×Int)) (g:Nat→gP→ρ) (hr:c r=some (l, -1)) (hg:∀ k x,c (g k x)=some (putAt l o k x)):∀ (m:List gP) (k:Nat),
    c (kR (fun k (_:Unit) x=>if x.N0 != 0 || decide (x.Oe ≥ 999) then .inl () else .inr (g (k+1) x)) (fun _=>r) k () m)=some (u5 l o (k+1) m)
  | [],k=>hr
  | x::m,k=>by
    unfold kR u5;cases h:(x.N0 != 0 || decide (x.Oe ≥ 999))
    · simp only [Bool.false_eq_true,if_false];exact hg _ _
    · simp only [if_true];exact Ba l o r c g hr hg m (k+1)
theorem BN (o:gP) (g:Int):hX (ks o g)=hX o:=rfl
theorem zN {o:gP} {g:Int} (h:nB o):nB (ks o g):=h
theorem JN {l:List gP} (h:Ar l) {o:gP} (ho:hX o≤100000) (k:Nat):iQ hX (l.set k o)<gS:=by
  have h1:=h.sz;have h2:=w6 (f:=hX) (y:=o) (l:=l) (k:=k);have:(16777216:Nat)=gS:=rfl;omega
theorem An {N:Nat} (hN:gS+1≤N) {l:List gP} (hb:iQ hX l<gS) {o:gP} (ho:hX o≤100000):o5 N l o=some (kG l o):=by
  have hN':gS≤N:=Nat.le_of_succ_le hN;have hB:(16777216:Nat)=gS:=rfl
  have hoB:hX o<gS:=by omega
  unfold o5 kG;simp only [uf hN' hb,uB hN' hb,Ok,jR];cases ha:jJ l
  · rfl
  have h:=j5.1 ha;have hl:=h.len;simp only [On,Bool.false_or,if_true];cases hk:(o.N0 != 0)
  · rw [AQ hk]
    have:(o.N0==0)=true:=by simpa [bne] using hk
    rw [this];rfl
  · have hk0:(o.N0==0)=false:=by simpa [bne] using hk
    simp only [hk0,Ol];obtain ⟨M,rfl⟩:∃ M,N=M+1:=⟨N - 1,by omega⟩;have hd:∀ k:Nat,k<l.length→decide ((k:Int)<(l.length:Int))=true:=fun k hk=>iE hk;have h0:decide ((0:Int)<(l.length:Int))=true:=hd 0 (by omega);unfold iter;simp only [h0,Om,(h.at (i:=0) (by omega) (by omega)).1,Ok,beq_self_eq_true,Bool.true_or,show i64.wrap (0+1)=1 from by decide];rw [Dm l (fun x=>x.N0 != 0 || decide (x.Oe ≥ 999)) (fun k x=>if jJ (l.set k (ks o (i64.wrap (x.Oe+1)))) then Sum.inr (l.set k (ks o (i64.wrap (x.Oe+1))),(k:Int)) else Sum.inr (l, -1)) (Sum.inl (l.length:Int)) (by omega) (by omega)]
    · simp only [Ok]
      exact Ba l o (Sum.inl (l.length:Int)) (fun o73=>Sum.elim (fun o73=>some (l, -1)) (fun r76=>some r76) o73) (fun k x=>if jJ (l.set k (ks o (i64.wrap (x.Oe+1)))) then Sum.inr (l.set k (ks o (i64.wrap (x.Oe+1))),(k:Int)) else Sum.inr (l, -1)) rfl (fun k x=>by
        unfold putAt;rw [hk]
        cases jJ (l.set k (ks o (i64.wrap (x.Oe+1))))<;>rfl) _ 0
    · intro k x hx hk1 hkl
      have hne:((k:Int)==0)=false:=by simp;omega
      have e1:idx (l.set k o) (k:Int)=some o:=F5 hkl;simp only [hd k hkl,Om,ij,hx,Ok,hne,Ol,jR,iK (show k<gS by omega),uf hN' hb,B0 hoB,Int.toNat_natCast,List.getElem?_set_self hkl,List.set_set];rw [show gP.mk (i64.wrap (x.Oe+1)) o.N0 o.box o.Od o.iw o.gE o.N9 o.iv o.iu o.Ob o.gX o.N8 o.N4=ks o (i64.wrap (x.Oe+1)) from rfl,uB hN' (JN h (by rw [BN];exact ho) k)];cases (x.N0 != 0 || decide (x.Oe ≥ 999))
      · cases jJ (l.set k (ks o (i64.wrap (x.Oe+1))))<;>rfl
      · rfl
    · simp only [iF,Ol]
theorem Ap {N:Nat} (hN:gS≤N) {l:List gP} (hb:iQ hX l<gS) (hw:wA l) {o:gP} (ho:hX o≤100000) (hwo:nB o):oS N l o=some (kG l o):=by
  have hB:(16777216:Nat)=gS:=rfl
  have hoB:hX o<gS:=by omega
  unfold oS kG;simp only [zy hN hb,ra hN hb hw,Ok];cases ha:jJ l
  · rfl
  have h:=j5.1 ha;have hl:=h.len;simp only [On,Ol,if_true];rw [Dm l (fun x=>x.N0 != 0 || decide (x.Oe ≥ 999)) (fun k x=>Sum.inr (putAt l o k x)) (Sum.inl (l.length:Int)) (by omega) (by omega)]
  · simp only [Ok];exact Ba l o (Sum.inl (l.length:Int)) (fun o84=>Sum.elim (fun o84=>some (l, -1)) (fun r87=>some r87) o84) (fun k x=>Sum.inr (putAt l o k x)) rfl (fun k x=>rfl) _ 0
  · intro k x hx hk1 hkl;simp only [iE hkl,Om,ij,hx,Ok,jR,iK (show k<gS by omega),FU hoB,Int.toNat_natCast];rw [show gP.mk (i64.wrap (x.Oe+1)) o.N0 o.box o.Od o.iw o.gE o.N9 o.iv o.iu o.Ob o.gX o.N8 o.N4=ks o (i64.wrap (x.Oe+1)) from rfl,ra hN (JN h (by rw [BN];exact ho) k) (kr hw (zN hwo))];simp only [Ok,jR];unfold putAt
    have hk:(o.N0==0)=!(o.N0 != 0):=by simp [bne]
    rw [hk];cases (x.N0 != 0 || decide (x.Oe ≥ 999))
    · cases jJ (l.set k (ks o (i64.wrap (x.Oe+1))))<;>cases (o.N0 != 0)<;>rfl
    · rfl
  · simp only [iF,Ol]
def marked (o:gP) (m:Bool):gP:=gP.mk o.Oe o.N0 o.box o.Od o.iw o.gE o.N9 o.iv o.iu m o.gX o.N8 o.N4
def oo (h:g5) (i:Int):g5:=if j9 h&&(ia i 0 9&&((nth h.ag i).N0 != 0)) then g5.mk (h.ag.set i.toNat (marked (nth h.ag i) ((h.gc.N2==0) || decide (i ≥ h.gc.Oa)))) h.gc else h
theorem DS {N:Nat} (hN:gS≤N) {h:g5} (h1:iQ hX h.ag<gS) (h2:h.gc.gQ.length<gS) (i:Int):rF N h i=some (oo h i):=by
  unfold rF oo;simp only [uT hN h1 h2,xa hN h1 h2,sE,Ok];cases q:j9 h
  · rfl
  cases hi:ia i 0 9
  · rfl
  have hr:=iR.1 hi;simp only [Om,((mC q).at hr.1 hr.2).1,Ok,Oo];cases (nth h.ag i).N0 != 0
  · rfl
  · cases h.gc.N2==0<;>rfl
theorem D0 {N:Nat} (hN:gS≤N) {h:g5} (h1:iQ hX h.ag<gS) (h2:h.gc.gQ.length<gS) (hw:wA h.ag) (i:Int):rz N h i=some (oo h i):=by
  unfold rz oo;simp only [wq hN h1 h2,xt hN h1 h2 hw,qR,Ok,bne];cases q:j9 h
  · rfl
  cases hi:ia i 0 9
  · rfl
  have hr:=iR.1 hi;simp only [On,Ol,((mC q).at hr.1 hr.2).1,Ok,Oo];cases (nth h.ag i).N0==0
  · cases h.gc.N2==0<;>rfl
  · rfl
end Go.Kx
namespace Go.Kx
open Go
open Go.IntKind (i64)
set_option linter.unusedVariables false
set_option linter.unusedSimpArgs false
set_option maxRecDepth 10000
def sL:List gP:=(List.replicate 10 (blank 0)).set 0 (gP.mk 0 1 (-1) 0 1000000 0 0 0 0 false [-1, -1] [] [])
def ve:gP:=gP.mk 0 4 0 0 1000000 0 0 0 0 false [-1, -1] [] []
def zV:List gP:=sL.set 1 (ks ve 1)
def HB:List gP:=sL.set 1 (marked (ks ve 1) true)
theorem Hf (N:Nat):tC N=some sL:=rfl
theorem Hh (N:Nat):tg N=some sL:=rfl
theorem yn:kG sL ve=(zV,1):=by decide
theorem G5:wA sL:=by
  intro o ho
  have:∀ o ∈ sL, -9223372036854775808≤o.N9:=by decide
  exact this o ho
theorem Jt:wA zV:=by
  intro o ho
  have:∀ o ∈ zV, -9223372036854775808≤o.N9:=by decide
  exact this o ho
def tX:g5:=g5.mk HB (iW.mk 0 0 0 [0])
theorem Ay:oo (g5.mk zV (iW.mk 0 0 0 [0])) 1=tX:=by decide
def nM (a:hJ):List g7:=(List.replicate 5 qD).set 0 (g7.mk true (-1) a)
theorem I5 {a:hJ} (h:iH a=true):iO ⟨0,0,0⟩ a=a:=by
  unfold iH wU at h;simp only [Oq,iR] at h;unfold iO;simp only [Int.zero_add];rw [iY (by omega) (by omega),iY (by omega) (by omega),iY (by omega) (by omega)]
theorem Gu (a:hJ):jy (nM a)=iH a:=by
  have h1:∀ i:Nat,allI (nD (nM a)) (i+1) (List.replicate 4 qD)=true:=fun i=>by
    rw [lQ];intro j r hr;rw [List.getElem?_replicate] at hr;split at hr
    · cases hr;rfl
    · cases hr
  have h2:allI (nD (nM a)) 0 (nM a)=iH a:=by
    show (((iH a&&true)&&allI (nD (nM a)) 1 (List.replicate 4 qD)):Bool)=iH a
    rw [h1 0,Bool.and_true,Bool.and_true]
  unfold jy;rw [h2]
  show (true&&(true&&(true&&(iH a&&iH (iO ⟨0,0,0⟩ a)))))=iH a
  cases h:iH a
  · rfl
  · rw [I5 h,h];rfl
theorem HY {N:Nat} (hN:gS≤N) (a:hJ):r6 N a=some (if iH a then (nM a,true) else ([],false)):=by
  unfold r6;rw [show mk g7 5=some (List.replicate 5 qD) from rfl];simp only [Ok];rw [show idx (List.replicate 5 qD) 0=some qD from rfl];simp only [Ok];rw [show (List.replicate 5 qD).set (0:Int).toNat (g7.mk true (-1) a)=nM a from rfl,ri hN,Gu];cases iH a<;>rfl
theorem Hl (N:Nat) (a:hJ):ss N a=some (if iH a then (nM a,true) else ([],false)):=by
  unfold ss;rw [qt,Ok];cases iH a<;>rfl
def Mu:cd:=cd.mk (iI.mk []) [] [] (g5.mk [] (iW.mk 0 0 0 [])) [] 0 0 (hJ.mk 0 0 0) 0 0
def yx (b:iC):cd:=cd.mk b.NZ b.own (nM b.jU) tX [] 0 0 (hJ.mk 0 0 0) 0 0
def Dc (b:iC):Bool:=iH b.jU&&(jL b.NZ&&lp b.own)
def qh (b:iC):cd×Bool:=if Dc b then (yx b,true) else (Mu,false)
theorem IG:nB ve:=by show (-9223372036854775808:Int)≤0;decide
theorem HT {N:Nat} (hN:gS+1≤N) {b:iC} (hb:iZ b<gS):su N b=some (qh b):=by
  have hN':gS≤N:=Nat.le_of_succ_le hN
  have h1:b.NZ.NY.length<gS∧b.own.length<gS:=by unfold iZ jQ at hb;omega
  unfold su qh Dc;simp only [HY hN',ur hN' h1.1,yP hN' h1.2,Ok,jR];cases iH b.jU
  · rfl
  cases jL b.NZ
  · rfl
  cases lp b.own
  · rfl
  simp only [if_true,On,Bool.or_self,Ol,Bool.and_self,Hf,Ok];rw [show gP.mk 0 4 0 0 1000000 0 0 0 0 false ([-1, -1]:List Int) [] []=ve from rfl,An hN (by decide) (by decide),yn];simp only [Ok,zk h1.1,rC h1.2];rw [show vY N=some (iW.mk 0 0 0 [0]) from rfl];simp only [Ok];rw [DS hN' (by decide) (by decide),Ay];rfl
theorem Aa (b:iC):ic (yx b)=iZ b+20:=by
  show jQ b.NZ+(b.own.length+((nM b.jU).length+((iQ hX tX.ag+((tX.gc.gQ.length+0)+0))+(([]:List iL).length+0))))=jQ b.NZ+(b.own.length+0)+20
  have h1:iQ hX tX.ag=14:=by decide
  have h2:tX.gc.gQ.length=1:=by decide
  have h3:(nM b.jU).length=5:=rfl;have h4:([]:List iL).length=0:=rfl;simp only [h1,h2,h3,h4];omega
theorem ID {N:Nat} (hN:gS≤N) {b:iC} (hb:iZ b≤1048576):rP N b=some (qh b):=by
  have h1:b.NZ.NY.length<gS∧b.own.length<gS:=by have:(16777216:Nat)=gS:=rfl;unfold iZ jQ at hb;omega
  unfold rP qh Dc;simp only [Hl,qA hN h1.1,yQ hN h1.2,Ok,jR];cases iH b.jU
  · cases jL b.NZ<;>cases lp b.own<;>rfl
  cases jL b.NZ
  · rfl
  cases lp b.own
  · rfl
  simp only [if_true,On,Bool.or_self,Ol,Bool.and_self,Hh,Ok];rw [show gP.mk 0 4 0 0 1000000 0 0 0 0 false ([-1, -1]:List Int) [] []=ve from rfl,Ap hN (by decide) G5 (by decide) IG,yn];simp only [Ok];rw [show wk N=some (iW.mk 0 0 0 [0]) from rfl];simp only [Ok];rw [D0 hN (by decide) (by decide) Jt,Ay];simp only [Ok];rw [show cd.mk b.NZ b.own (nM b.jU) tX [] 0 0 (hJ.mk 0 0 0) 0 0=yx b from rfl,qz hN (by rw [Aa];have:(16777216:Nat)=gS:=rfl;omega)];rfl
end Go.Kx
namespace Go.Kx
open Go
open Go.IntKind (i64)
set_option linter.unusedVariables false
set_option linter.unusedSimpArgs false
set_option maxRecDepth 10000
def sI (b:List iC):List cd:=b.map fun x=>(qh x).1
def mS (b:List iC):hO:=if mW b then ⟨0,sI b⟩ else ⟨0,[]⟩
theorem FH {N:Nat} (hN:gS≤N) {b:List iC} (hl:b.length<gS) {F:iC→Option (cd×Bool)} (hF:∀ y,y ∈ b→F y=some (qh y)) :
    iter (fun (s10:Int×(List cd))=>(bif (decide (s10.1<(b.length:Int))) then ((idx b s10.1).bind fun y13=>(F y13).bind fun y28=>(app s10.2 [y28.1]).bind fun y45=>some (.inl (i64.wrap (s10.1+1),y45))) else (some (.inr (s10.1,s10.2))):Option ((Int×(List cd))⊕(Int×(List cd))))) N (0,[])=some ((b.length:Int),sI b):=by
  have e:∀ (l:List iC) (k:Nat) (acc:List cd),foldI (fun _ (acc:List cd) y=>acc++[(qh y).1]) k acc l=acc++sI l:=by
    intro l
    induction l with
    | nil=>intro k acc;simp [foldI,sI]
    | cons y l ih=>intro k acc;unfold foldI;rw [ih];simp [sI]
  rw [show ((0:Int),([]:List cd))=(fun (k:Nat) (t:List cd)=>((k:Int),t)) 0 [] from rfl,
    jM b (fun (k:Nat) (t:List cd)=>((k:Int),t)) (fun _ acc y=>acc++[(qh y).1]) (fun t=>((b.length:Int),t)) (fun k t=>t.length≤k) ?_ ?_ (Nat.lt_of_lt_of_le hl hN) (by simp),e]
  · simp
  · intro k t y hy hk ht;refine ⟨?_,by simp;omega⟩;simp only [iE hk,Om,ij,hy,Ok,hF y (List.mem_of_getElem? hy),iK (Nat.lt_trans hk hl),j6 ht (Nat.lt_of_le_of_lt hk hl)]
  · intro t _;simp only [iF,Ol]
theorem GG {N:Nat} (hN:gS+1≤N) {b:List iC} (hb:iQ iZ b<gS):qY N b=some (mS b):=by
  have hN':gS≤N:=Nat.le_of_succ_le hN;unfold qY mS;rw [Dv hN' hb,Ok];cases mW b
  · rfl
  · simp only [On,Ol,if_true];rw [FH hN' (jz hb) fun y hy=>HT hN (jm hb hy)];rfl
theorem Gq {N:Nat} (hN:gS≤N) {b:List iC} (hb:iQ iZ b≤1048576):qI N b=some (mS b):=by
  have hb':iQ iZ b<gS:=small hb;unfold qI mS;rw [DJ hN hb',Ok];cases mW b
  · rfl
  · simp only [On,Ol,if_true];rw [FH hN (jz hb') fun y hy=>ID hN (Nat.le_of_lt_succ (jm (Nat.lt_succ_of_le hb) hy))];rfl
end Go.Kx
