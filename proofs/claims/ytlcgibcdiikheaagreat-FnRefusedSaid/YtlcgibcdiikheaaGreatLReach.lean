import Derived.Test.YtlcgibcdiikheaaGreatLBoot
namespace Go.Kx
open Go
open Go.IntKind (i64)
set_option linter.unusedVariables false
set_option linter.unusedSimpArgs false
set_option maxRecDepth 10000
theorem DG {σ ρ:Type} {body:σ→Option (σ⊕ρ)} (μ:σ→Nat) (I:σ→Prop) (Q:ρ→Prop) (h:∀ s,I s→(∃ s',body s=some (.inl s')∧I s'∧μ s'<μ s)∨∃ r,body s=some (.inr r)∧Q r):∀ (N:Nat) (s:σ),I s→μ s<N→∃ r,iter body N s=some r∧Q r
  | 0,s,_,hN=>by omega
  | N+1,s,hI,hN=>by
    unfold iter
    rcases h s hI with ⟨s',h1,h2,h3⟩ | ⟨r,h1,h2⟩
    · rw [h1];exact DG μ I Q h N s' h2 (by omega)
    · rw [h1];exact ⟨r,rfl,h2⟩
theorem vB {α β:Type} {p:Nat→α→Bool} {h:Nat→α→β} {z:β}:∀ {l:List α} {k:Nat},z ∈ kP p h k l ↔ ∃ (i:Nat) (y:α),l[i]?=some y∧p (k+i) y=true∧z=h (k+i) y
  | [],k=>by simp [kP]
  | y::l,k=>by
    have ih:=vB (p:=p) (h:=h) (z:=z) (l:=l) (k:=k+1)
    have key:(∃ (i:Nat) (x:α),(y::l)[i]?=some x∧p (k+i) x=true∧z=h (k+i) x) ↔ (p k y=true∧z=h k y)∨z ∈ kP p h (k+1) l:=by
      rw [ih];constructor
      · rintro ⟨i,x,h1,h2,h3⟩
        cases i with
        | zero=>simp at h1;subst h1;exact .inl ⟨h2,h3⟩
        | succ i=>exact .inr ⟨i,x,by simpa using h1,by rwa [show k+1+i=k+(i+1) by omega],by rwa [show k+1+i=k+(i+1) by omega]⟩
      · rintro (⟨h2,h3⟩ | ⟨i,x,h1,h2,h3⟩)
        · exact ⟨0,y,rfl,h2,h3⟩
        · exact ⟨i+1,x,by simpa using h1,by rwa [show k+(i+1)=k+1+i by omega],by rwa [show k+(i+1)=k+1+i by omega]⟩
    rw [key,show kP p h k (y::l)=if p k y then h k y::kP p h (k+1) l else kP p h (k+1) l from rfl];cases hp:p k y<;>simp
structure Ar (l:List gE):Prop where
  len:l.length=10
  uC:(nth l 0).Pz=1
  yf:(nth l 0).box=-1
  z7:(nth l 0).iK=1000000
  ok:∀ o,o ∈ l→ja o=true
  ig:∀ o,o ∈ l→∀ y,y ∈ o.ig→0≤y→(nth l y).Pz ≠ 0
  box:∀ (k:Nat) (o:gE),l[k]?=some o→0<k→o.Pz ≠ 0→0≤o.box→(nth l o.box).Pz ≠ 0
theorem H3 {l:List gE} {k:Nat} {o:gE}:uw l k o=true ↔ ja o=true∧(0<k→o.Pz ≠ 0→0≤o.box→(nth l o.box).Pz ≠ 0)∧∀ y,y ∈ o.ig→0≤y→(nth l y).Pz ≠ 0:=by
  unfold uw v5 vq;simp only [PY,List.all_eq_true,Bool.not_eq_true',Bool.and_eq_false_iff,decide_eq_false_iff_not,bne_eq_false_iff_eq,beq_eq_false_iff_ne,ne_eq];constructor
  · rintro ⟨⟨h1,h2⟩,h3⟩;refine ⟨h1,fun a b c=>?_,fun y hy h0=>?_⟩
    · rcases h2 with q | q | q | q
      · omega
      · exact absurd q b
      · omega
      · exact q
    · rcases h3 y hy with q | q
      · omega
      · exact q
  · rintro ⟨h1,h2,h3⟩;refine ⟨⟨h1,?_⟩,fun y hy=>?_⟩
    · by_cases a:0<k
      · by_cases b:o.Pz=0
        · exact .inr (.inl b)
        · by_cases c:0≤o.box
          · exact .inr (.inr (.inr (h2 a b c)))
          · exact .inr (.inr (.inl (by omega)))
      · exact .inl (by omega)
    · by_cases c:0≤y
      · exact .inr (h3 y hy c)
      · exact .inl (by omega)
theorem j7 {l:List gE}:kp l=true ↔ Ar l:=by
  unfold kp vX;simp only [PY,Bool.not_eq_true',bne_eq_false_iff_eq,Bool.or_eq_false_iff,nN,Nat.zero_add,H3];constructor
  · rintro ⟨h1,⟨h2,h3,h4⟩,h5⟩;have hm:∀ o,o ∈ l→∃ k:Nat,l[k]?=some o:=fun o ho=>List.getElem?_of_mem ho;refine ⟨by omega,h2,h3,h4,fun o ho=>?_,fun o ho=>?_,fun k o hk=>?_⟩
    · obtain ⟨k,hk⟩:=hm o ho;exact (h5 k o hk).1
    · obtain ⟨k,hk⟩:=hm o ho;exact (h5 k o hk).2.2
    · exact (h5 k o hk).2.1
  · intro h;refine ⟨by have:=h.len;omega,⟨h.uC,h.yf,h.z7⟩,fun i y hy=>⟨h.ok y (List.mem_of_getElem? hy),h.box i y hy,h.ig y (List.mem_of_getElem? hy)⟩⟩
theorem Ar.at {l:List gE} (h:Ar l) {i:Int} (h0:0≤i) (h9:i≤9):idx l i=some (nth l i)∧nth l i ∈ l:=⟨jC h0 (by have:=h.len;omega),lh h0 (by have:=h.len;omega)⟩
theorem Ar.xO {l:List gE} (h:Ar l):l.length<ir:=by rw [h.len];decide
def jF (o:gE) (now:Int):Bool:=bif o.Pz==0 then true else decide (o.iK<now)
theorem IN (N:Nat) (o:gE) (now:Int):ra N o now=some (jF o now):=pV _ _ _
theorem vj (N:Nat) (o:gE) (now:Int):mO N o now=some (jF o now):=pV _ _ _
def xD (l:List gE) (i:Int) (k:Nat) (y:gE):Bool:=(decide ((k:Int) > 0)&&(y.Pz != 0&&((y.box==i)&&((nth l i).Pz==1)))) || (nth l i).ig.contains (k:Int)
def lU (l:List gE) (i:Int):List Int:=kP (xD l i) (fun k _=>(k:Int)) 0 l
theorem JK {o:gE} (h:ja o=true):o.ig.length<ir:=Nat.lt_of_le_of_lt (qD h).1 (by decide)
theorem vo {l:List gE} {i k:Int} (h:k ∈ lU l i):0≤k∧k<(l.length:Int):=by
  obtain ⟨j,y,h1,_,h3⟩:=vB.1 h;have:=jl h1;have h3:k=((0+j:Nat):Int):=h3;omega
theorem IY (l:List gE) (i:Int):(lU l i).length≤l.length:=yK _ _ _ _
theorem Jp {N:Nat} (hN:ir≤N) {l:List gE} (h:Ar l) {i:Int} (h0:0≤i) (h9:i≤9):qX N l i=some (lU l i):=by
  obtain ⟨q1,q2⟩:=h.at h0 h9;have hB:=h.xO;unfold qX lU;rw [tT l (xD l i) (fun k _=>(k:Int)) hB hN]
  · rfl
  · intro k t y hy hk ht;simp only [jy hk,PV,iY,hy,PT,q1,uG hN (JK (h.ok _ q2)),mj,lq,jB (Nat.lt_trans hk hB),l5 ht (Nat.lt_of_le_of_lt hk hB)]
    show (bif xD l i k y then _ else _)=_
    cases xD l i k y<;>rfl
  · intro t;simp only [jz,PU]
theorem GX {l:List gE} (h:Ar l) {i:Int} (h0:0≤i) (h9:i≤9) (hk:(nth l i).Pz=0):lU l i=[]:=by
  obtain ⟨_,q2⟩:=h.at h0 h9
  have hl:(nth l i).ig=[]:=by
    have:=h.ok _ q2;unfold ja at this;simp only [hk,beq_self_eq_true,PV,PY,decide_eq_true_eq] at this;rw [this.2.2];rfl
  rw [List.eq_nil_iff_forall_not_mem];intro k hm;obtain ⟨j,y,_,h2,_⟩:=vB.1 hm;simp [xD,hk,hl] at h2
theorem GI {N:Nat} (hN:ir≤N) {l:List gE} (hb:jr iz l<ir) (hw:wA l) (h:Ar l) {i:Int} (h0:0≤i) (h9:i≤9):rP N l i=some (lU l i):=by
  obtain ⟨q1,q2⟩:=h.at h0 h9;have hB:=h.xO
  have hi:iA i 0 9=true:=by rw [iS];omega
  unfold rP;simp only [rA hN hb hw,j7.2 h,tA,hi,q1,PT,PW,PU];cases hk:(nth l i).Pz==0
  · simp only [PU];unfold lU;rw [tT l (xD l i) (fun k _=>(k:Int)) hB hN]
    · rfl
    · intro k t y hy hk ht;simp only [jy hk,PV,iY,hy,PT,xl hN (JK (h.ok _ q2)),mj,lq,jB (Nat.lt_trans hk hB),l5 ht (Nat.lt_of_le_of_lt hk hB)];unfold xD;cases decide ((k:Int) > 0)
      · cases (nth l i).ig.contains (k:Int)<;>rfl
      cases y.Pz != 0
      · cases (nth l i).ig.contains (k:Int)<;>rfl
      cases y.box==i
      · cases (nth l i).ig.contains (k:Int)<;>rfl
      · cases ((nth l i).Pz==1)<;>cases (nth l i).ig.contains (k:Int)<;>rfl
    · intro t;simp only [jz,PU]
  · rw [GX h h0 h9 (by simpa using hk)];rfl
inductive Reaches (l:List gE) (now:Int):Int→Prop
  | root:Reaches l now 0
  | step {i k:Int}:Reaches l now i→k ∈ lU l i→jF (nth l k) now=false→Reaches l now k
theorem Reaches.v8 {l:List gE} {now:Int} (h:Ar l) {k:Int} (hr:Reaches l now k):0≤k∧k≤9:=by
  cases hr with
  | root=>omega
  | step _ h2 _=>have:=vo h2;have:=h.len;omega
def tS:List Bool→Nat
  | []=>0
  | b::r=>(if b then 0 else 1)+tS r
theorem FN:∀ {r:List Bool} {k:Nat},r[k]?=some false→tS (r.set k true)+1=tS r
  | b::r,0,h=>by simp at h;subst h;simp [tS];omega
  | b::r,k+1,h=>by
    have:=FN (r:=r) (k:=k) (by simpa using h);simp only [List.set_cons_succ,tS];omega
def yO (r q:List Bool):Prop:=∀ k:Nat,r[k]?=some true→q[k]?=some true
theorem Dy:∀ {r q:List Bool},r.length=q.length→yO r q→tS r≤tS q→r=q
  | [],[],_,_,_=>rfl
  | b::r,c::q,hl,h,hc=>by
    have hl':r.length=q.length:=by simpa using hl
    have h':yO r q:=fun k hk=>by simpa using h (k+1) (by simpa using hk)
    have key:∀ {r q:List Bool},r.length=q.length→yO r q→tS q≤tS r:=by
      intro r
      induction r with
      | nil=>intro q hl _;cases q with
        | nil=>exact Nat.le_refl _
        | cons=>simp at hl
      | cons b r ih =>
        intro q hl h
        cases q with
        | nil=>simp at hl
        | cons c q =>
          have:=ih (q:=q) (by simpa using hl) (fun k hk=>by simpa using h (k+1) (by simpa using hk));have h0:=h 0;simp at h0;simp only [tS];cases b<;>cases c<;>simp_all<;>omega
    have h0:=h 0;simp at h0;have:=key hl' h';simp only [tS] at hc;cases b<;>cases c
    · exact congrArg _ (Dy hl' h' (by simpa using hc))
    · exfalso;simp at hc;omega
    · simp at h0
    · exact congrArg _ (Dy hl' h' (by simpa using hc))
theorem Gv {r:List Bool} {k:Nat}:yO r (r.set k true):=fun j hj=>by
  rw [List.getElem?_set];split
  · rename_i e;subst e;rw [if_pos (jl hj)]
  · exact hj
theorem setAt {r:List Bool} {k j:Nat} (h:(r.set k true)[j]?=some true):j=k∨r[j]?=some true:=by
  rw [List.getElem?_set] at h;split at h
  · exact .inl (by omega)
  · exact .inr h
def wS (l:List gE) (now:Int) (r:List Bool) (y:Int):List Bool:=if jF (nth l y) now then r else r.set y.toNat true
def visit (l:List gE) (now:Int) (k:Nat) (r:List Bool) (o:gE):List Bool:=if !(nth r (k:Int)) || (jF o now&&decide ((k:Int) > 0)) then r else (lU l (k:Int)).foldl (wS l now) r
def vf (l:List gE) (now:Int) (r:List Bool):List Bool:=foldI (visit l now) 0 r l
def rQ (l:List gE) (now:Int):Nat→List Bool→List Bool
  | 0,r=>r
  | n+1,r=>rQ l now n (vf l now r)
def reach (l:List gE) (now:Int):List Bool:=if kp l then rQ l now 10 ((List.replicate 10 false).set 0 true) else []
theorem BF (l:List gE) (now:Int) (r:List Bool) (y:Int):(wS l now r y).length=r.length:=by unfold wS;split<;>simp
theorem Es (l:List gE) (now:Int):∀ (e:List Int) (r:List Bool),(e.foldl (wS l now) r).length=r.length
  | [],r=>rfl
  | y::e,r=>by rw [List.foldl_cons,Es l now e,BF]
theorem wY (l:List gE) (now:Int) (k:Nat) (r:List Bool) (o:gE):(visit l now k r o).length=r.length:=by
  unfold visit;split
  · rfl
  · exact Es _ _ _ _
theorem NB (l:List gE) (now:Int) (r:List Bool) (y:Int):yO r (wS l now r y):=by
  unfold wS;split
  · exact fun _ h=>h
  · exact Gv
theorem Bk (l:List gE) (now:Int):∀ (e:List Int) (r:List Bool),yO r (e.foldl (wS l now) r)
  | [],r=>fun _ h=>h
  | y::e,r=>fun k hk=>Bk l now e _ k (NB l now r y k hk)
theorem D5 (l:List gE) (now:Int) (k:Nat) (r:List Bool) (o:gE):yO r (visit l now k r o):=by
  unfold visit;split
  · exact fun _ h=>h
  · exact Bk _ _ _ _
theorem DP (l:List gE) (now:Int):∀ (e:List Int) (r:List Bool),(∀ y,y ∈ e→y.toNat<r.length)→∀ y,y ∈ e→jF (nth l y) now=false→(e.foldl (wS l now) r)[y.toNat]?=some true
  | z::e,r,hr,y,hy,hx=>by
    rw [List.foldl_cons]
    rcases List.mem_cons.1 hy with rfl | hy
    · refine Bk l now e _ _ ?_;unfold wS;rw [if_neg (by simp [hx]),List.getElem?_set_self (hr y (by simp))]
    · exact DP l now e _ (fun x h=>by rw [BF];exact hr x (by simp [h])) y hy hx
def vG (l:List gE) (now:Int) (r:List Bool):Prop:=∀ k:Nat,r[k]?=some true→Reaches l now (k:Int)
theorem C5 {l:List gE} {now i:Int} (hi:Reaches l now i):∀ (e:List Int) (r:List Bool),(∀ y,y ∈ e→y ∈ lU l i)→vG l now r→vG l now (e.foldl (wS l now) r)
  | [],r,_,h=>h
  | y::e,r,he,h=>by
    rw [List.foldl_cons];refine C5 hi e _ (fun x hx=>he x (by simp [hx])) ?_;unfold wS;split
    · exact h
    · rename_i hx;intro k hk
      rcases setAt hk with q | q
      · have hy:=he y (by simp);have:=vo hy
        have e:(k:Int)=y:=by omega
        rw [e];exact .step hi hy (by simpa using hx)
      · exact h k q
theorem zX {r:List Bool} {k:Nat}:nth r (k:Int)=true ↔ r[k]?=some true:=by
  unfold nth;rw [Int.toNat_natCast]
  cases h:r[k]? with
  | none=>simp;try rfl
  | some b=>simp
theorem yt {l:List gE} {now:Int} {k:Nat} {r:List Bool} {o:gE} (h:vG l now r):vG l now (visit l now k r o):=by
  unfold visit;split
  · exact h
  · rename_i hc;simp only [Bool.or_eq_true,Bool.not_eq_true',not_or,Bool.not_eq_false] at hc;exact C5 (h k (zX.1 hc.1)) _ _ (fun _ hy=>hy) h
theorem xe {l:List gE} {now:Int}:∀ (m:List gE) (k:Nat) (r:List Bool),vG l now r→(foldI (visit l now) k r m).length=r.length∧yO r (foldI (visit l now) k r m)∧vG l now (foldI (visit l now) k r m)
  | [],k,r,h=>⟨rfl,fun _ h=>h,h⟩
  | o::m,k,r,h=>by
    obtain ⟨h1,h2,h3⟩:=xe m (k+1) (visit l now k r o) (yt h);exact ⟨by unfold foldI;rw [h1,wY],fun j hj=>h2 j (D5 l now k r o j hj),h3⟩
def A8 (l:List gE) (now:Int) (r q:List Bool):Prop:=∀ i:Nat,r[i]?=some true→∀ y,y ∈ lU l (i:Int)→jF (nth l y) now=false→q[y.toNat]?=some true
theorem AJ {l:List gE} {now:Int} (h:Ar l) {k:Int} (hr:Reaches l now k) (hk:k ≠ 0):jF (nth l k) now=false:=by
  cases hr with
  | root=>exact absurd rfl hk
  | step _ _ h3=>exact h3
theorem Cg {l:List gE} {now:Int} (h:Ar l):∀ (m:List gE) (k:Nat) (r q:List Bool),(∀ j:Nat,m[j]?=l[k+j]?)→r.length=10→vG l now r→yO q r→∀ i:Nat,k≤i→q[i]?=some true→∀ y,y ∈ lU l (i:Int)→jF (nth l y) now=false→(foldI (visit l now) k r m)[y.toNat]?=some true
  | [],k,r,q,hm,hr,hs,hq,i,hi,hqi,y,hy,hx=>by
    have:=(hs i (hq i hqi)).v8 h;have h2:=hm (i - k);rw [show k+(i - k)=i by omega] at h2;have:=h.len;rw [List.getElem?_eq_getElem (show i<l.length by omega)] at h2;simp at h2
  | o::m,k,r,q,hm,hr,hs,hq,i,hi,hqi,y,hy,hx=>by
    have ho:l[k]?=some o:=by have:=hm 0;simpa using this.symm
    unfold foldI
    rcases Nat.eq_or_lt_of_le hi with e | hlt
    · subst e;refine (xe m (k+1) _ (yt hs)).2.1 _ ?_;have hk:nth r (k:Int)=true:=zX.2 (hq k hqi)
      have hn:(jF o now&&decide ((k:Int) > 0))=false:=by
        by_cases h0:k=0
        · subst h0;simp
        · have:=AJ h (hs k (hq k hqi)) (by omega);rw [tn ho] at this;simp [this]
      unfold visit;rw [if_neg (by rw [hk,hn];decide)];exact DP l now _ r (fun z hz=>by have:=vo hz;have:=h.len;omega) y hy hx
    · exact Cg h m (k+1) (visit l now k r o) q (fun j=>by have:=hm (j+1);rw [show k+1+j=k+(j+1) by omega, ← this];rfl) (by rw [wY,hr]) (yt hs) (fun j hj=>D5 l now k r o j (hq j hj)) i hlt hqi y hy hx
theorem yN {l:List gE} {now:Int} (h:Ar l):∀ (n:Nat) (r:List Bool),r.length=10→vG l now r→(rQ l now n r).length=10∧yO r (rQ l now n r)∧vG l now (rQ l now n r)∧(tS r<n→A8 l now (rQ l now n r) (rQ l now n r))
  | 0,r,hr,hs=>⟨hr,fun _ h=>h,hs,fun h=>by omega⟩
  | n+1,r,hr,hs=>by
    obtain ⟨p1,p2,p3⟩:=xe (l:=l) (now:=now) l 0 r hs;have p4:=fun i hi=>Cg h l 0 r r (fun j=>by rw [Nat.zero_add]) hr hs (fun _ h=>h) i (Nat.zero_le _) hi;obtain ⟨q1,q2,q3,q4⟩:=yN h n (vf l now r) (by unfold vf;rw [p1,hr]) p3;refine ⟨q1,fun k hk=>q2 k (p2 k hk),q3,fun hc=>?_⟩
    by_cases hcl:tS (vf l now r)<n
    · exact q4 hcl
    · have e:r=vf l now r:=Dy p1.symm p2 (by omega)
      have fix:∀ m,rQ l now m r=r:=by
        intro m
        induction m with
        | zero=>rfl
        | succ m ih=>unfold rQ;rw [← e,ih]
      rw [fix (n+1)];intro i hi y hy hx;have:=p4 i hi y hy hx
      rwa [show foldI (visit l now) 0 r l=r from e.symm] at this
def K9 (l:List gE) (now:Int) (r:List Bool):Prop:=r.length=10∧∀ k:Nat,r[k]?=some true ↔ Reaches l now (k:Int)
theorem Js {l:List gE} {now:Int} (h:Ar l) {r:List Bool} (hl:r.length=10) (hs:vG l now r) (h0:r[0]?=some true) (hc:A8 l now r r):K9 l now r:=by
  refine ⟨hl,fun k=>⟨hs k,fun hr=>?_⟩⟩
  have key:∀ j:Int,Reaches l now j→r[j.toNat]?=some true:=by
    intro j hj
    induction hj with
    | root=>exact h0
    | step h1 h2 h3 ih =>
      rename_i i k;have:=(Reaches.v8 h h1);refine hc i.toNat ih k ?_ h3
      rwa [show ((i.toNat:Nat):Int)=i by omega]
  simpa using key k hr
theorem MN {l:List gE} {now:Int} {r q:List Bool} (h1:K9 l now r) (h2:K9 l now q):r=q:=by
  apply List.ext_getElem? fun k=>?_
  rcases Nat.lt_or_ge k 10 with hk | hk
  · have e:r[k]?=some true ↔ q[k]?=some true:=(h1.2 k).trans (h2.2 k).symm;rw [List.getElem?_eq_getElem (by rw [h1.1];exact hk),List.getElem?_eq_getElem (by rw [h2.1];exact hk)] at e ⊢;generalize r[k]'(by rw [h1.1];exact hk)=a at *;generalize q[k]'(by rw [h2.1];exact hk)=b at *;cases a<;>cases b<;>simp_all
  · rw [List.getElem?_eq_none (by rw [h1.1];exact hk),List.getElem?_eq_none (by rw [h2.1];exact hk)]
theorem ID (l:List gE) (now:Int):vG l now ((List.replicate 10 false).set 0 true):=fun k hk=>by
  rcases setAt hk with q | q
  · subst q;exact .root
  · rw [List.getElem?_replicate] at q;split at q<;>simp at q
theorem uV {l:List gE} (h:Ar l) (now:Int):K9 l now (reach l now):=by
  unfold reach;rw [if_pos (j7.2 h)];obtain ⟨q1,q2,q3,q4⟩:=yN (now:=now) h 10 ((List.replicate 10 false).set 0 true) rfl (ID l now);exact Js h q1 q3 (q2 0 rfl) (q4 (by decide))
theorem rV {l:List gE} (h:Ar l) (now:Int):(reach l now).length=10:=(uV h now).1
theorem yz {l:List gE} {now:Int}:∀ (m:List gE) (k:Nat) (r:List Bool),(foldI (visit l now) k r m).length=r.length
  | [],k,r=>rfl
  | o::m,k,r=>by unfold foldI;rw [yz m,wY]
theorem LM {N:Nat} (hN:ir≤N) {l:List gE} (h:Ar l) {now:Int} {e:List Int} (he:∀ y,y ∈ e→0≤y∧y≤9) (hl:e.length≤10) {r:List Bool} (hr:r.length=10) :
    iter (fun (s67:(List Bool)×Int)=>(bif (decide (s67.2<(e.length:Int))) then ((idx e s67.2).bind fun y70=>(idx l y70).bind fun y83=>bif (!(jF y83 now)) then ((idx s67.1 y70).bind fun y104=>some (.inl (s67.1.set (y70:Int).toNat true,i64.wrap (s67.2+1)))) else (some (.inl (s67.1,i64.wrap (s67.2+1))))) else (some (.inr (s67.1,s67.2))):Option (((List Bool)×Int)⊕((List Bool)×Int)))) N (r,0)=some (e.foldl (wS l now) r,(e.length:Int)):=by
  have hB:e.length<ir:=Nat.lt_of_le_of_lt hl (by decide)
  rw [show (r,(0:Int))=(fun (k:Nat) (t:List Bool)=>(t,(k:Int))) 0 r from rfl,
    mf e (fun (k:Nat) (t:List Bool)=>(t,(k:Int))) (fun _ t y=>wS l now t y) (fun t=>(t,(e.length:Int))) (fun _ t=>t.length=10) ?_ ?_ (Nat.lt_of_lt_of_le hB hN) hr,nv]
  · intro k t y hy hk ht;obtain ⟨y0,y9⟩:=he y (List.mem_of_getElem? hy);refine ⟨?_,by rw [BF,ht]⟩;simp only [jy hk,PV,iY,hy,PT,(h.at y0 y9).1,vj,jB (Nat.lt_trans hk hB),jC (l:=t) y0 (by omega)];unfold wS;cases jF (nth l y) now<;>rfl
  · intro t _;simp only [jz,PU]
theorem tx {l:List gE} (h:Ar l) (i:Int):(∀ y,y ∈ lU l i→0≤y∧y≤9)∧(lU l i).length≤10:=by
  have:=h.len;refine ⟨fun y hy=>by have:=vo hy;omega,by have:=IY l i;omega⟩
theorem Gs {N:Nat} (hN:ir≤N) {l:List gE} (hb:jr iz l<ir) (hw:wA l) (now:Int):ud N l now=some (reach l now):=by
  unfold ud reach;rw [rA hN hb hw,PT];cases ha:kp l
  · rfl
  have h:=j7.1 ha;have hB:=h.xO;simp only [PW,PU,if_true];rw [show mk Bool 10=some (List.replicate 10 false) from rfl];simp only [PT];rw [show idx (List.replicate 10 false) 0=some false from rfl];simp only [PT]
  have hin:∀ r:List Bool,r.length=10→iter (fun (s21:(List Bool)×Int)=>(bif (decide (s21.2<(l.length:Int))) then (((idx s21.1 s21.2).bind fun y26=>bif (!y26) then (some true) else ((idx l s21.2).bind fun y40=>(mO N y40 now).bind fun y58=>bif y58 then (some (decide (s21.2 > 0))) else (some false)):Option Bool).bind fun j24=>bif j24 then (some (.inl (s21.1,i64.wrap (s21.2+1)))) else ((rP N l s21.2).bind fun y63=>(iter (fun (s67:(List Bool)×Int)=>(bif (decide (s67.2<(y63.length:Int))) then ((idx y63 s67.2).bind fun y70=>(idx l y70).bind fun y83=>(mO N y83 now).bind fun y101=>bif (!y101) then ((idx s67.1 y70).bind fun y104=>some (.inl (s67.1.set (y70:Int).toNat true,i64.wrap (s67.2+1)))) else (some (.inl (s67.1,i64.wrap (s67.2+1))))) else (some (.inr (s67.1,s67.2))):Option (((List Bool)×Int)⊕((List Bool)×Int)))) N (s21.1,0)).bind fun o111=>some (.inl (o111.1,i64.wrap (s21.2+1))))) else (some (.inr (s21.1,s21.2))):Option (((List Bool)×Int)⊕((List Bool)×Int)))) N (r,0)=some (vf l now r,(l.length:Int)):=by
    intro r hr
    rw [show (r,(0:Int))=(fun (k:Nat) (t:List Bool)=>(t,(k:Int))) 0 r from rfl,
      mf l (fun (k:Nat) (t:List Bool)=>(t,(k:Int))) (fun k t y=>visit l now k t y) (fun t=>(t,(l.length:Int))) (fun _ t=>t.length=10) ?_ ?_ (Nat.lt_of_lt_of_le hB hN) hr]
    · rfl
    · intro k t y hy hk ht
      have hk10:k<10:=by rw [← h.len];exact hk
      refine ⟨?_,by rw [wY,ht]⟩;simp only [jy hk,PV];rw [jC (l:=t) (i:=(k:Int)) (by omega) (by omega)];simp only [iY,hy,PT,vj,jB (Nat.lt_trans hk hB)];rw [GI hN hb hw h (i:=(k:Int)) (by omega) (by omega),PT,LM hN h (tx h _).1 (tx h _).2 ht];unfold visit;cases nth t (k:Int)<;>cases jF y now<;>cases decide ((k:Int) > 0)<;>rfl
    · intro t _;simp only [jz,PU]
  have hout:∀ (n:Nat) (j:Nat) (r:List Bool),r.length=10→foldI (fun _ t (_:Unit)=>vf l now t) j r (List.replicate n ())=rQ l now n r:=by
    intro n
    induction n with
    | zero=>intro j r _;rfl
    | succ n ih=>intro j r hr;rw [List.replicate_succ];unfold foldI rQ;exact ih _ _ (by
        have:=yz (l:=l) (now:=now) l 0 r
        unfold vf;rw [this,hr])
  rw [show (((List.replicate 10 false).set (0:Int).toNat true,(0:Int)):List Bool×Int)=(fun (k:Nat) (t:List Bool)=>(t,(k:Int))) 0 ((List.replicate 10 false).set 0 true) from rfl,
    mf (List.replicate 10 ()) (fun (k:Nat) (t:List Bool)=>(t,(k:Int))) (fun _ t _=>vf l now t) (fun t=>(t,(10:Int))) (fun _ t=>t.length=10) ?_ ?_ (Ni (k:=0) hN (by decide)) rfl,hout 10 0 _ rfl]
  · rfl
  · intro k t y hy hk ht
    have hk:k<10:=by simpa using hk
    refine ⟨?_,by have:=yz (l:=l) (now:=now) l 0 t;unfold vf;rw [this,ht]⟩
    have h3:decide ((k:Int)<10)=true:=by simp;omega
    simp only [h3,PV];rw [hin t ht];simp only [PT,jB (show k<ir from Nat.lt_trans hk (by decide))]
  · intro t _;rfl
def push (l:List gE) (now:Int) (s:List Bool×List Int) (y:Int):List Bool×List Int:=if !(nth s.1 y)&&!jF (nth l y) now then (s.1.set y.toNat true,s.2++[y]) else s
theorem BY {r:List Bool} {y:Int} (h0:0≤y):nth r y=true ↔ r[y.toNat]?=some true:=by
  have:=zX (r:=r) (k:=y.toNat)
  rwa [show ((y.toNat:Nat):Int)=y by omega] at this
theorem xK {l:List gE} {now i:Int} (hi:Reaches l now i):∀ (e:List Int) (s:List Bool×List Int),(∀ y,y ∈ e→y ∈ lU l i∧0≤y∧y≤9)→s.1.length=10→vG l now s.1 →
    let z:=e.foldl (push l now) s
    z.1.length=10∧vG l now z.1∧yO s.1 z.1∧z.2.length+tS z.1=s.2.length+tS s.1∧(∀ y,y ∈ e→jF (nth l y) now=false→z.1[y.toNat]?=some true)∧(∀ y,y ∈ s.2→y ∈ z.2) ∧
      (∀ y,y ∈ z.2→y ∈ s.2∨(0≤y∧z.1[y.toNat]?=some true))∧(∀ k:Nat,z.1[k]?=some true→s.1[k]?=some true∨(k:Int) ∈ z.2)
  | [],s,_,h1,h2=>⟨h1,h2,fun _ h=>h,rfl,fun _ h=>absurd h (by simp),fun _ h=>h,fun _ h=>.inl h,fun _ h=>.inl h⟩
  | y::e,s,he,h1,h2=>by
    obtain ⟨e1,e2,e3⟩:=he y (by simp)
    have hlt:y.toNat<s.1.length:=by omega
    simp only [List.foldl_cons]
    by_cases hc:(!(nth s.1 y)&&!jF (nth l y) now)=true
    · have hp:push l now s y=(s.1.set y.toNat true,s.2++[y]):=by unfold push;rw [if_pos hc]
      simp only [PY,Bool.not_eq_true'] at hc
      have hf:s.1[y.toNat]?=some false:=by
        have:¬ s.1[y.toNat]?=some true:=fun q=>by rw [(BY e2).2 q] at hc;simp at hc
        rw [List.getElem?_eq_getElem hlt] at this ⊢;cases hb:s.1[y.toNat]<;>simp_all
      have hs:vG l now (s.1.set y.toNat true):=fun k hk=>by
        rcases setAt hk with q | q
        · have e:(k:Int)=y:=by omega
          rw [e];exact .step hi e1 hc.2
        · exact h2 k q
      rw [hp];obtain ⟨a1,a2,a3,a4,a5,a6,a7,a8⟩:=xK hi e (s.1.set y.toNat true,s.2++[y]) (fun x hx=>he x (by simp [hx])) (by simpa using h1) hs;have hy:(e.foldl (push l now) (s.1.set y.toNat true,s.2++[y])).1[y.toNat]?=some true:=a3 _ (List.getElem?_set_self hlt);refine ⟨a1,a2,fun k hk=>a3 k (Gv k hk),?_,fun x hx hxx=>?_,fun x hx=>a6 x (by simp [hx]),fun x hx=>?_,fun k hk=>?_⟩
      · have:=FN hf;simp only [List.length_append,List.length_cons,List.length_nil] at a4;omega
      · rcases List.mem_cons.1 hx with rfl | hx
        · exact hy
        · exact a5 x hx hxx
      · rcases a7 x hx with q | q
        · rcases List.mem_append.1 q with q | q
          · exact .inl q
          · simp at q;subst q;exact .inr ⟨e2,hy⟩
        · exact .inr q
      · rcases a8 k hk with q | q
        · rcases setAt q with q | q
          · refine .inr (a6 (k:Int) ?_)
            have e:(k:Int)=y:=by omega
            simp [e]
          · exact .inl q
        · exact .inr q
    · have hp:push l now s y=s:=by unfold push;rw [if_neg hc]
      rw [hp];obtain ⟨a1,a2,a3,a4,a5,a6,a7,a8⟩:=xK hi e s (fun x hx=>he x (by simp [hx])) h1 h2;refine ⟨a1,a2,a3,a4,fun x hx hxx=>?_,a6,a7,a8⟩
      rcases List.mem_cons.1 hx with rfl | hx
      · refine a3 _ ((BY e2).1 ?_);cases hn:nth s.1 x
        · exact absurd (show (!(nth s.1 x)&&!jF (nth l x) now)=true by simp [hn,hxx]) hc
        · rfl
      · exact a5 x hx hxx
theorem Cq (l:List gE) (now:Int):∀ (e:List Int) (s:List Bool×List Int),s.2.length≤(e.foldl (push l now) s).2.length
  | [],s=>Nat.le_refl _
  | y::e,s=>by
    rw [List.foldl_cons];refine Nat.le_trans ?_ (Cq l now e _);unfold push;split<;>simp
theorem KH {N:Nat} (hN:ir≤N) {l:List gE} (h:Ar l) {now:Int} {e:List Int} (he:∀ y,y ∈ e→0≤y∧y≤9) (hl:e.length≤10) {r:List Bool} (hr:r.length=10) {t:List Int} (ht:t.length≤100) :
    iter (fun (s45:(List Bool)×(List Int)×Int)=>(bif (decide (s45.2.2<(e.length:Int))) then ((idx e s45.2.2).bind fun y48=>((idx s45.1 y48).bind fun y63=>bif (!y63) then ((idx l y48).bind fun y77=>(ra N y77 now).bind fun y95=>some (!y95)) else (some false):Option Bool).bind fun j61=>bif j61 then ((idx s45.1 y48).bind fun y99=>(app s45.2.1 [y48]).bind fun y106=>some (.inl (s45.1.set (y48:Int).toNat true,y106,i64.wrap (s45.2.2+1)))) else (some (.inl (s45.1,s45.2.1,i64.wrap (s45.2.2+1))))) else (some (.inr (s45.1,s45.2.1,s45.2.2))):Option (((List Bool)×(List Int)×Int)⊕((List Bool)×(List Int)×Int)))) N (r,t,0) =
      some ((e.foldl (push l now) (r,t)).1,(e.foldl (push l now) (r,t)).2,(e.length:Int)):=by
  have hB:e.length<ir:=Nat.lt_of_le_of_lt hl (by decide)
  rw [show (r,t,(0:Int))=(fun (k:Nat) (s:List Bool×List Int)=>(s.1,s.2,(k:Int))) 0 (r,t) from rfl,
    mf e (fun (k:Nat) (s:List Bool×List Int)=>(s.1,s.2,(k:Int))) (fun _ s y=>push l now s y) (fun s=>(s.1,s.2,(e.length:Int))) (fun k s=>s.1.length=10∧s.2.length≤100+k) ?_ ?_ (Nat.lt_of_lt_of_le hB hN) ⟨hr,ht⟩,nv]
  · intro k s y hy hk ⟨i1,i2⟩;obtain ⟨y0,y9⟩:=he y (List.mem_of_getElem? hy)
    refine ⟨?_,by
      unfold push;split
      · simp only [List.length_set,List.length_append,List.length_cons,List.length_nil];omega
      · omega⟩
    have hkB:100+k+1<ir:=by have:(16777216:Nat)=ir:=rfl;omega
    simp only [jy hk,PV,iY,hy,PT,(h.at y0 y9).1,IN,jB (Nat.lt_trans hk hB),jC (l:=s.1) y0 (by omega),l5 i2 hkB,mj];unfold push;cases (!(nth s.1 y)&&!jF (nth l y) now)<;>rfl
  · intro s _;simp only [jz,PU]
theorem F6 {N:Nat} (hN:ir≤N) {l:List gE} (hb:jr iz l<ir) (now:Int):tD N l now=some (reach l now):=by
  unfold tD;rw [wN hN hb,PT];cases ha:kp l
  · unfold reach;rw [ha];rfl
  have h:=j7.1 ha;simp only [PW,PU];rw [show mk Bool 10=some (List.replicate 10 false) from rfl];simp only [PT];rw [show idx (List.replicate 10 false) 0=some false from rfl];simp only [PT]
  obtain ⟨z,hz,hz1,hz2,hz3,hz4⟩:=DG (body:=fun (s18:(List Bool)×(List Int))=>(bif (decide ((s18.2.length:Int) > 0)) then ((idx s18.2 0).bind fun y21=>(sub s18.2 1 (s18.2.length:Int)).bind fun y34=>(qX N l y21).bind fun y41=>(iter (fun (s45:(List Bool)×(List Int)×Int)=>(bif (decide (s45.2.2<(y41.length:Int))) then ((idx y41 s45.2.2).bind fun y48=>((idx s45.1 y48).bind fun y63=>bif (!y63) then ((idx l y48).bind fun y77=>(ra N y77 now).bind fun y95=>some (!y95)) else (some false):Option Bool).bind fun j61=>bif j61 then ((idx s45.1 y48).bind fun y99=>(app s45.2.1 [y48]).bind fun y106=>some (.inl (s45.1.set (y48:Int).toNat true,y106,i64.wrap (s45.2.2+1)))) else (some (.inl (s45.1,s45.2.1,i64.wrap (s45.2.2+1))))) else (some (.inr (s45.1,s45.2.1,s45.2.2))):Option (((List Bool)×(List Int)×Int)⊕((List Bool)×(List Int)×Int)))) N (s18.1,y34,0)).bind fun o111=>some (.inl (o111.1,o111.2.1))) else (some (.inr (s18.1,s18.2))):Option (((List Bool)×(List Int))⊕((List Bool)×(List Int)))))
    (fun s=>s.2.length+2 * tS s.1)
    (fun s=>s.1.length=10∧vG l now s.1∧s.1[0]?=some true∧s.2.length+tS s.1≤10∧(∀ y,y ∈ s.2→0≤y∧s.1[y.toNat]?=some true)∧∀ i:Nat,s.1[i]?=some true→(i:Int) ∈ s.2∨∀ y,y ∈ lU l (i:Int)→jF (nth l y) now=false→s.1[y.toNat]?=some true)
    (fun s=>s.1.length=10∧vG l now s.1∧s.1[0]?=some true∧A8 l now s.1 s.1)
    (fun s hI=>by
      obtain ⟨r,t⟩:=s;obtain ⟨i1,i2,i3,i4,i5,i6⟩:=hI;simp only at i1 i2 i3 i4 i5 i6
      cases t with
      | nil=>exact .inr ⟨(r,[]),rfl,i1,i2,i3,fun i hi=>by have:=i6 i hi;simpa using this⟩
      | cons x t =>
        left;obtain ⟨x0,xr⟩:=i5 x (by simp)
        have hx:Reaches l now x:=by have:=i2 x.toNat xr;rwa [show ((x.toNat:Nat):Int)=x by omega] at this
        obtain ⟨_,x9⟩:=hx.v8 h
        have hsub:sub (x::t) 1 ((x::t).length:Int)=some t:=by
          unfold sub;rw [if_pos ⟨by omega,by simp only [List.length_cons];omega,Int.le_refl _⟩];simp
        obtain ⟨e1,e2⟩:=tx h x
        have hpos:decide (((x::t).length:Int) > 0)=true:=by simp
        obtain ⟨a1,a2,a3,a4,a5,a6,a7,a8⟩:=xK hx (lU l x) (r,t) (fun y hy=>⟨hy,e1 y hy⟩) i1 i2;simp only [List.length_cons] at i4;refine ⟨(lU l x).foldl (push l now) (r,t),?_,⟨a1,a2,a3 0 i3,by simp only at a4;omega,fun y hy=>?_,fun i hi=>?_⟩,?_⟩
        · simp only [hpos,PV];rw [show idx (x::t) 0=some x from rfl];simp only [PT,hsub];rw [Jp hN h x0 x9,PT,KH hN h e1 e2 i1 (by omega)];rfl
        · rcases a7 y hy with q | q
          · obtain ⟨q1,q2⟩:=i5 y (by simp [show y ∈ t from q]);exact ⟨q1,a3 _ q2⟩
          · exact q
        · rcases a8 i hi with q | q
          · rcases i6 i q with q | q
            · rcases List.mem_cons.1 q with q | q
              · rw [q];exact .inr a5
              · exact .inl (a6 _ q)
            · exact .inr fun y hy hyx=>a3 _ (q y hy hyx)
          · exact .inl q
        · simp only [List.length_cons] at a4 ⊢
          have hle:tS ((lU l x).foldl (push l now) (r,t)).1≤tS r:=by
            have:t.length≤((lU l x).foldl (push l now) (r,t)).2.length:=Cq l now (lU l x) (r,t);omega
          omega)
    N ((List.replicate 10 false).set 0 true,[0]) ⟨rfl,ID l now,rfl,by decide,fun y hy=>by simp at hy;subst hy;exact ⟨by decide,rfl⟩,fun i hi=>by
      rcases setAt hi with q | q
      · subst q;exact .inl (by simp)
      · rw [List.getElem?_replicate] at q;split at q<;>simp at q⟩ (by have:16777216≤N:=hN;simp only [show tS ((List.replicate 10 false).set 0 true)=9 from rfl,List.length_cons,List.length_nil];omega)
  rw [show ((List.replicate 10 false).set (0:Int).toNat true)=(List.replicate 10 false).set 0 true from rfl,hz,PT];exact congrArg some (MN (Js h hz1 hz2 hz3 hz4) (uV h now))
theorem o6 {h:il} (q:kB h=true):Ar h.ag:=by
  unfold kB at q;simp only [PY] at q;exact j7.1 q.1
def threads (p:cd) (now:Int):List Int:=if iO p then kP (fun k b=>b&&((nth p.py.ag (k:Int)).Pz==4)) (fun k _=>(k:Int)) 0 (reach p.py.ag now) else []
theorem kf {p:cd} (h:iO p=true):Ar p.py.ag:=by
  unfold iO kB at h;simp only [PY] at h;exact j7.1 h.2.2.2.1.1
theorem sF {p:cd} {now k:Int} (h:k ∈ threads p now):iO p=true∧0≤k∧k≤9:=by
  unfold threads at h;split at h
  · rename_i hp;obtain ⟨j,b,h1,_,h3⟩:=vB.1 h;have:=jl h1;rw [rV (kf hp)] at this;have h3:k=((0+j:Nat):Int):=h3;exact ⟨hp,by omega,by omega⟩
  · simp at h
theorem zq {N:Nat} (hN:ir≤N) {l:List gE} (h:Ar l) {now:Int} {body:List Int×Int→Option ((List Int×Int)⊕(List Int×Int))}
    (hs:∀ (k:Nat) (t:List Int) (b:Bool),(reach l now)[k]?=some b→k<10→t.length≤k→body (t,(k:Int))=some (.inl (if b&&((nth l (k:Int)).Pz==4) then t++[(k:Int)] else t,((k+1:Nat):Int))))
    (he:∀ t,body (t,10)=some (.inr (t,10))):iter body N ([],0)=some (kP (fun k b=>b&&((nth l (k:Int)).Pz==4)) (fun k _=>(k:Int)) 0 (reach l now),10):=by
  have hl:=rV h now
  have e:((reach l now).length:Int)=10:=by omega
  rw [tT (reach l now) (fun k b=>b&&((nth l (k:Int)).Pz==4)) (fun k _=>(k:Int)) (by rw [hl];decide) hN,e]
  · intro k t b hb hk ht;exact hs k t b hb (by omega) ht
  · intro t;rw [e];exact he t
theorem Ik {N:Nat} (hN:ir≤N) {p:cd} (hb:iH p<ir) (now:Int):tg N p now=some (threads p now):=by
  unfold tg threads;rw [zT hN hb,PT];cases hp:iO p
  · rfl
  have h:=kf hp;have hl:=rV h now;simp only [PW,PU,F6 hN (kS hb).2.2.2.1,PT,if_true];rw [zq hN h]
  · rfl
  · intro k t b hy hk ht
    have hd:decide ((k:Int)<((reach p.py.ag now).length:Int))=true:=by simp;omega
    simp only [hd,PV];rw [(h.at (i:=(k:Int)) (by omega) (by omega)).1];simp only [iY,hy,PT,mj,jB (show k<ir from Nat.lt_trans hk (by decide)),l5 ht (show k+1<ir from Nat.lt_trans (Nat.succ_lt_succ hk) (by decide))];cases (b&&((nth p.py.ag (k:Int)).Pz==4))<;>rfl
  · intro t;simp only [hl];rfl
theorem IV {N:Nat} (hN:ir≤N) {p:cd} (hb:iH p<ir) (hw:wP p) (now:Int):sD N p now=some (threads p now):=by
  unfold sD threads;rw [z6 hN hb hw,PT];cases hp:iO p
  · rfl
  have h:=kf hp;have hl:=rV h now;simp only [PW,PU,Gs hN (kS hb).2.2.2.1 hw,PT,if_true];rw [zq hN h]
  · rfl
  · intro k t b hy hk ht
    have hd:decide ((k:Int)<((reach p.py.ag now).length:Int))=true:=by simp;omega
    simp only [hd,PV];rw [(h.at (i:=(k:Int)) (by omega) (by omega)).1];simp only [iY,hy,PT,mj,jB (show k<ir from Nat.lt_trans hk (by decide)),l5 ht (show k+1<ir from Nat.lt_trans (Nat.succ_lt_succ hk) (by decide))];cases (b&&((nth p.py.ag (k:Int)).Pz==4))<;>rfl
  · intro t;simp only [hl];rfl
theorem zw (p:cd) (now:Int):(threads p now).length<ir:=by
  unfold threads;split
  · rename_i hp;refine Nat.lt_of_le_of_lt (yK _ _ _ _) ?_;rw [rV (kf hp)];decide
  · decide
def lJ (p:cd) (now:Int) (th:Int):Bool:=(threads p now).contains th&&((nth p.py.ag th).PK==0)
theorem Ce {N:Nat} (hN:ir≤N) {p:cd} (hb:iH p<ir) (now th:Int):qN N p now th=some (lJ p now th):=by
  unfold qN lJ;simp only [Ik hN hb,PT,uG hN (zw p now)];cases hc:(threads p now).contains th
  · rfl
  · obtain ⟨h1,h2,h3⟩:=sF (List.contains_iff_mem.1 hc);simp only [PV,((kf h1).at h2 h3).1,PT,PX]
theorem BR {N:Nat} (hN:ir≤N) {p:cd} (hb:iH p<ir) (hw:wP p) (now th:Int):rf N p now th=some (lJ p now th):=by
  unfold rf lJ;simp only [IV hN hb hw,PT,xl hN (zw p now)];cases hc:(threads p now).contains th
  · rfl
  · obtain ⟨h1,h2,h3⟩:=sF (List.contains_iff_mem.1 hc);simp only [PV,((kf h1).at h2 h3).1,PT,PX]
end Go.Kx
namespace Go.Kx
open Go
open Go.IntKind (i64)
set_option linter.unusedVariables false
set_option linter.unusedSimpArgs false
set_option maxRecDepth 10000
theorem ve {α:Type} {f:α→Nat} {c:Nat}:∀ {l:List α},(∀ y,y ∈ l→f y≤c)→pe f l≤c * l.length
  | [],_=>Nat.zero_le _
  | y::l,h=>by
    have h1:=h y (by simp);have h2:=ve (l:=l) fun z hz=>h z (by simp [hz]);simp only [pe,List.length_cons,Nat.mul_add];omega
theorem C2 {α:Type} {f:α→Nat} {y:α}:∀ {l:List α} {k:Nat},pe f (l.set k y)≤pe f l+f y
  | [],k=>by simp [pe]
  | z::l,0=>by simp only [List.set_cons_zero,pe];omega
  | z::l,k+1=>by
    have:=C2 (f:=f) (y:=y) (l:=l) (k:=k);simp only [List.set_cons_succ,pe];omega
theorem va {α:Type} {f:α→Nat} {y:α} {l:List α} {k:Nat}:jr f (l.set k y)≤jr f l+f y:=by
  have:=C2 (f:=f) (y:=y) (l:=l) (k:=k);unfold jr;simp only [List.length_set];omega
theorem xy {o:gE} (h:ja o=true):iz o≤12:=by
  have hl:=(qD h).1;unfold ja at h;unfold iz;cases hk:o.Pz==0
  · simp only [hk,PU,PY] at h;obtain ⟨_,_,_,_,_,hp,hl2,_⟩:=h;unfold lH at hl2;simp only [PY,decide_eq_true_eq,beq_iff_eq] at hl2;obtain ⟨_,_,_,_,hd,hq⟩:=hl2;rw [iS] at hp
    have:o.PG.length≤8:=by
      cases h2:o.Pz==2
      · rw [h2] at hd;simp only [PU] at hd;omega
      · rw [h2] at hd;simp only [PV] at hd;omega
    have:o.PE.length≤2:=by
      cases h3:o.Pz==3
      · rw [h3] at hq;simp only [PU] at hq;omega
      · rw [h3] at hq;simp only [PV] at hq;omega
    omega
  · simp only [hk,PV,PY,decide_eq_true_eq] at h;rw [h.2.2];simp [blank]
theorem Ar.sz {l:List gE} (h:Ar l):jr iz l≤130:=by
  have h1:=ve (f:=iz) (c:=12) fun y hy=>xy (h.ok y hy);have h2:=h.len;unfold jr;rw [h2] at h1 ⊢;omega
theorem kR {l:List gE} {k:Nat} {o:gE} (h:wA l) (ho:nn o):wA (l.set k o):=fun y hy=>by
  rcases List.mem_or_eq_of_mem_set hy with q | q
  · exact h y q
  · rw [q];exact ho
def kn (o:gE) (g:Int):gE:=gE.mk g o.Pz o.box o.res o.iK o.bh o.PK o.iP o.iM o.mark o.ig o.PG o.PE
def putAt (l:List gE) (o:gE) (k:Nat) (x:gE):List gE×Int:=if kp (l.set k (kn o (i64.wrap (x.PO+1))))&&(o.Pz != 0) then (l.set k (kn o (i64.wrap (x.PO+1))),(k:Int)) else (l, -1)
def pA (l:List gE) (o:gE):Nat→List gE→List gE×Int
  | _,[]=>(l, -1)
  | k,x::m=>if x.Pz != 0 || decide (x.PO ≥ 999) then pA l o (k+1) m else putAt l o k x
def kr (l:List gE) (o:gE):List gE×Int:=if kp l then pA l o 1 (l.drop 1) else (l, -1)
theorem AS {l:List gE} {o:gE} (h:(o.Pz != 0)=false):∀ (m:List gE) (k:Nat),pA l o k m=(l, -1)
  | [],k=>rfl
  | x::m,k=>by
    unfold pA putAt;rw [h,AS h m];simp
theorem Dr {ρ:Type} {body:Int→Option (Int⊕ρ)} (l:List gE) (p:gE→Bool) (g:Nat→gE→ρ) (r:ρ) {N:Nat} (hN:l.length+1<N) (hl:1≤l.length)
    (hs:∀ (k:Nat) (x:gE),l[k]?=some x→1≤k→k<l.length→body (k:Int)=some (if p x then .inl ((k+1:Nat):Int) else .inr (g k x))) (he:body (l.length:Int)=some (.inr r)) :
    iter body N 1=some (m7 (fun k (_:Unit) x=>if p x then .inl () else .inr (g (k+1) x)) (fun _=>r) 0 () (l.drop 1)):=by
  have hd:(l.drop 1).length+1=l.length:=by simp;omega
  rw [show (1:Int)=(fun (k:Nat) (_:Unit)=>((k+1:Nat):Int)) 0 () from rfl,
    n8 (l.drop 1) (fun (k:Nat) (_:Unit)=>((k+1:Nat):Int)) (fun k _ x=>if p x then .inl () else .inr (g (k+1) x)) (fun _=>r) (fun _ _=>True) ?_ ?_ (by omega) trivial]
  · intro k _ x hx hk _
    have hx:l[k+1]?=some x:=by rw [← hx,List.getElem?_drop,Nat.add_comm]
    refine ⟨?_,fun _ _=>trivial⟩
    show body ((k+1:Nat):Int)=_
    rw [hs (k+1) x hx (by omega) (by omega)];cases p x<;>rfl
  · intro _ _;simp only [hd];exact he
theorem Br {ρ:Type} (l:List gE) (o:gE) (r:ρ) (c:ρ→Option (List gE×Int)) (g:Nat→gE→ρ) (hr:c r=some (l, -1)) (hg:∀ k x,c (g k x)=some (putAt l o k x)):∀ (m:List gE) (k:Nat),
    c (m7 (fun k (_:Unit) x=>if x.Pz != 0 || decide (x.PO ≥ 999) then .inl () else .inr (g (k+1) x)) (fun _=>r) k () m)=some (pA l o (k+1) m)
  | [],k=>hr
  | x::m,k=>by
    unfold m7 pA;cases h:(x.Pz != 0 || decide (x.PO ≥ 999))
    · simp only [Bool.false_eq_true,if_false];exact hg _ _
    · simp only [if_true];exact Br l o r c g hr hg m (k+1)
theorem Cr (o:gE) (g:Int):iz (kn o g)=iz o:=rfl
theorem xQ {o:gE} {g:Int} (h:nn o):nn (kn o g):=h
theorem Kv {l:List gE} (h:Ar l) {o:gE} (ho:iz o≤100000) (k:Nat):jr iz (l.set k o)<ir:=by
  have h1:=h.sz;have h2:=va (f:=iz) (y:=o) (l:=l) (k:=k);have:(16777216:Nat)=ir:=rfl;omega
theorem HG {N:Nat} (hN:ir+1≤N) {l:List gE} (hb:jr iz l<ir) {o:gE} (ho:iz o≤100000):rp N l o=some (kr l o):=by
  have hN':ir≤N:=Nat.le_of_succ_le hN;have hB:(16777216:Nat)=ir:=rfl
  have hoB:iz o<ir:=by omega
  unfold rp kr;simp only [w8 hN' hb,wN hN' hb,PT,lq];cases ha:kp l
  · rfl
  have h:=j7.1 ha;have hl:=h.len;simp only [PW,Bool.false_or,if_true];cases hk:(o.Pz != 0)
  · rw [AS hk]
    have:(o.Pz==0)=true:=by simpa [bne] using hk
    rw [this];rfl
  · have hk0:(o.Pz==0)=false:=by simpa [bne] using hk
    simp only [hk0,PU];obtain ⟨M,rfl⟩:∃ M,N=M+1:=⟨N - 1,by omega⟩;have hd:∀ k:Nat,k<l.length→decide ((k:Int)<(l.length:Int))=true:=fun k hk=>jy hk;have h0:decide ((0:Int)<(l.length:Int))=true:=hd 0 (by omega);unfold iter;simp only [h0,PV,(h.at (i:=0) (by omega) (by omega)).1,PT,beq_self_eq_true,Bool.true_or,show i64.wrap (0+1)=1 from by decide];rw [Dr l (fun x=>x.Pz != 0 || decide (x.PO ≥ 999)) (fun k x=>if kp (l.set k (kn o (i64.wrap (x.PO+1)))) then Sum.inr (l.set k (kn o (i64.wrap (x.PO+1))),(k:Int)) else Sum.inr (l, -1)) (Sum.inl (l.length:Int)) (by omega) (by omega)]
    · simp only [PT]
      exact Br l o (Sum.inl (l.length:Int)) (fun o73=>Sum.elim (fun o73=>some (l, -1)) (fun r76=>some r76) o73) (fun k x=>if kp (l.set k (kn o (i64.wrap (x.PO+1)))) then Sum.inr (l.set k (kn o (i64.wrap (x.PO+1))),(k:Int)) else Sum.inr (l, -1)) rfl (fun k x=>by
        unfold putAt;rw [hk]
        cases kp (l.set k (kn o (i64.wrap (x.PO+1))))<;>rfl) _ 0
    · intro k x hx hk1 hkl
      have hne:((k:Int)==0)=false:=by simp;omega
      have e1:idx (l.set k o) (k:Int)=some o:=Gn hkl;simp only [hd k hkl,PV,iY,hx,PT,hne,PU,lq,jB (show k<ir by omega),w8 hN' hb,Cb hoB,Int.toNat_natCast,List.getElem?_set_self hkl,List.set_set];rw [show gE.mk (i64.wrap (x.PO+1)) o.Pz o.box o.res o.iK o.bh o.PK o.iP o.iM o.mark o.ig o.PG o.PE=kn o (i64.wrap (x.PO+1)) from rfl,wN hN' (Kv h (by rw [Cr];exact ho) k)];cases (x.Pz != 0 || decide (x.PO ≥ 999))
      · cases kp (l.set k (kn o (i64.wrap (x.PO+1))))<;>rfl
      · rfl
    · simp only [jz,PU]
theorem x6 {N:Nat} (hN:ir≤N) {l:List gE} (hb:jr iz l<ir) (hw:wA l) {o:gE} (ho:iz o≤100000) (hwo:nn o):oz N l o=some (kr l o):=by
  have hB:(16777216:Nat)=ir:=rfl
  have hoB:iz o<ir:=by omega
  unfold oz kr;simp only [Al hN hb,rA hN hb hw,PT];cases ha:kp l
  · rfl
  have h:=j7.1 ha;have hl:=h.len;simp only [PW,PU,if_true];rw [Dr l (fun x=>x.Pz != 0 || decide (x.PO ≥ 999)) (fun k x=>Sum.inr (putAt l o k x)) (Sum.inl (l.length:Int)) (by omega) (by omega)]
  · simp only [PT];exact Br l o (Sum.inl (l.length:Int)) (fun o84=>Sum.elim (fun o84=>some (l, -1)) (fun r87=>some r87) o84) (fun k x=>Sum.inr (putAt l o k x)) rfl (fun k x=>rfl) _ 0
  · intro k x hx hk1 hkl;simp only [jy hkl,PV,iY,hx,PT,lq,jB (show k<ir by omega),Gu hoB,Int.toNat_natCast];rw [show gE.mk (i64.wrap (x.PO+1)) o.Pz o.box o.res o.iK o.bh o.PK o.iP o.iM o.mark o.ig o.PG o.PE=kn o (i64.wrap (x.PO+1)) from rfl,rA hN (Kv h (by rw [Cr];exact ho) k) (kR hw (xQ hwo))];simp only [PT,lq];unfold putAt
    have hk:(o.Pz==0)=!(o.Pz != 0):=by simp [bne]
    rw [hk];cases (x.Pz != 0 || decide (x.PO ≥ 999))
    · cases kp (l.set k (kn o (i64.wrap (x.PO+1))))<;>cases (o.Pz != 0)<;>rfl
    · rfl
  · simp only [jz,PU]
def marked (o:gE) (m:Bool):gE:=gE.mk o.PO o.Pz o.box o.res o.iK o.bh o.PK o.iP o.iM m o.ig o.PG o.PE
def mW (h:il) (i:Int):il:=if kB h&&(iA i 0 9&&((nth h.ag i).Pz != 0)) then il.mk (h.ag.set i.toNat (marked (nth h.ag i) ((h.gc.PD==0) || decide (i ≥ h.gc.PL)))) h.gc else h
theorem KB {N:Nat} (hN:ir≤N) {h:il} (h1:jr iz h.ag<ir) (h2:h.gc.hZ.length<ir) (i:Int):uo N h i=some (mW h i):=by
  unfold uo mW;simp only [xV hN h1 h2,zV hN h1 h2,u9,PT];cases q:kB h
  · rfl
  cases hi:iA i 0 9
  · rfl
  have hr:=iS.1 hi;simp only [PV,((o6 q).at hr.1 hr.2).1,PT,PX];cases (nth h.ag i).Pz != 0
  · rfl
  · cases h.gc.PD==0<;>rfl
theorem Ec {N:Nat} (hN:ir≤N) {h:il} (h1:jr iz h.ag<ir) (h2:h.gc.hZ.length<ir) (hw:wA h.ag) (i:Int):ss N h i=some (mW h i):=by
  unfold ss mW;simp only [wT hN h1 h2,xJ hN h1 h2 hw,tA,PT,bne];cases q:kB h
  · rfl
  cases hi:iA i 0 9
  · rfl
  have hr:=iS.1 hi;simp only [PW,PU,((o6 q).at hr.1 hr.2).1,PT,PX];cases (nth h.ag i).Pz==0
  · cases h.gc.PD==0<;>rfl
  · rfl
end Go.Kx
namespace Go.Kx
open Go
open Go.IntKind (i64)
set_option linter.unusedVariables false
set_option linter.unusedSimpArgs false
set_option maxRecDepth 10000
def rD:List gE:=(List.replicate 10 (blank 0)).set 0 (gE.mk 0 1 (-1) 0 1000000 0 0 0 0 false [-1, -1] [] [])
def xp:gE:=gE.mk 0 4 0 0 1000000 0 0 0 0 false [-1, -1] [] []
def AH:List gE:=rD.set 1 (kn xp 1)
def C6:List gE:=rD.set 1 (marked (kn xp 1) true)
theorem A5 (N:Nat):rr N=some rD:=rfl
theorem DB:kr rD xp=(AH,1):=by decide
theorem H4:wA rD:=by
  intro o ho
  have:∀ o ∈ rD, -9223372036854775808≤o.PK:=by decide
  exact this o ho
theorem KS:wA AH:=by
  intro o ho
  have:∀ o ∈ AH, -9223372036854775808≤o.PK:=by decide
  exact this o ho
def uS:il:=il.mk C6 (jv.mk 0 0 0 [0])
theorem He:mW (il.mk AH (jv.mk 0 0 0 [0])) 1=uS:=by decide
def xw (a:ic):List im:=(List.replicate 5 oo).set 0 (im.mk true (-1) a)
theorem B4 (N:Nat) (a:ic):ri N a=some (if iU a then (xw a,true) else ([],false)):=by
  unfold ri;rw [sm,PT];cases iU a<;>rfl
def Og:cd:=cd.mk (jE.mk []) [] [] (il.mk [] (jv.mk 0 0 0 [])) [] 0 0 (ic.mk 0 0 0) 0 0
def uZ (b:ku):cd:=cd.mk b.PB b.own (xw b.kh) uS [] 0 0 (ic.mk 0 0 0) 0 0
def BV (b:ku):Bool:=iU b.kh&&(jH b.PB&&mQ b.own)
def re (b:ku):cd×Bool:=if BV b then (uZ b,true) else (Og,false)
theorem J3:nn xp:=by show (-9223372036854775808:Int)≤0;decide
theorem xF (b:ku):iH (uZ b)=lL b+20:=by
  show m6 b.PB+(b.own.length+((xw b.kh).length+((jr iz uS.ag+((uS.gc.hZ.length+0)+0))+(([]:List iZ).length+0))))=m6 b.PB+(b.own.length+0)+20
  have h1:jr iz uS.ag=14:=by decide
  have h2:uS.gc.hZ.length=1:=by decide
  have h3:(xw b.kh).length=5:=rfl;have h4:([]:List iZ).length=0:=rfl;simp only [h1,h2,h3,h4];omega
theorem Cw {N:Nat} (hN:ir≤N) {b:ku} (hb:lL b≤1048576):qJ N b=some (re b):=by
  have h1:b.PB.PA.length<ir∧b.own.length<ir:=by have:(16777216:Nat)=ir:=rfl;unfold lL m6 at hb;omega
  unfold qJ re BV;simp only [B4,vl hN h1.1,zk hN h1.2,PT,lq];cases iU b.kh
  · cases jH b.PB<;>cases mQ b.own<;>rfl
  cases jH b.PB
  · rfl
  cases mQ b.own
  · rfl
  simp only [if_true,PW,Bool.or_self,PU,Bool.and_self,A5,PT];rw [show gE.mk 0 4 0 0 1000000 0 0 0 0 false ([-1, -1]:List Int) [] []=xp from rfl,x6 hN (by decide) H4 (by decide) J3,DB];simp only [PT];rw [show tU N=some (jv.mk 0 0 0 [0]) from rfl];simp only [PT];rw [Ec hN (by decide) (by decide) KS,He];simp only [PT];rw [show cd.mk b.PB b.own (xw b.kh) uS [] 0 0 (ic.mk 0 0 0) 0 0=uZ b from rfl,yq hN (by rw [xF];have:(16777216:Nat)=ir:=rfl;omega)];rfl
end Go.Kx
namespace Go.Kx
open Go
open Go.IntKind (i64)
set_option linter.unusedVariables false
set_option linter.unusedSimpArgs false
set_option maxRecDepth 10000
def om (b:List ku):List cd:=b.map fun x=>(re x).1
def xN (b:List ku):iC:=if xi b then ⟨0,om b⟩ else ⟨0,[]⟩
theorem L8 {N:Nat} (hN:ir≤N) {b:List ku} (hl:b.length<ir) {F:ku→Option (cd×Bool)} (hF:∀ y,y ∈ b→F y=some (re y)) :
    iter (fun (s10:Int×(List cd))=>(bif (decide (s10.1<(b.length:Int))) then ((idx b s10.1).bind fun y13=>(F y13).bind fun y28=>(app s10.2 [y28.1]).bind fun y45=>some (.inl (i64.wrap (s10.1+1),y45))) else (some (.inr (s10.1,s10.2))):Option ((Int×(List cd))⊕(Int×(List cd))))) N (0,[])=some ((b.length:Int),om b):=by
  have e:∀ (l:List ku) (k:Nat) (acc:List cd),foldI (fun _ (acc:List cd) y=>acc++[(re y).1]) k acc l=acc++om l:=by
    intro l
    induction l with
    | nil=>intro k acc;simp [foldI,om]
    | cons y l ih=>intro k acc;unfold foldI;rw [ih];simp [om]
  rw [show ((0:Int),([]:List cd))=(fun (k:Nat) (t:List cd)=>((k:Int),t)) 0 [] from rfl,
    mf b (fun (k:Nat) (t:List cd)=>((k:Int),t)) (fun _ acc y=>acc++[(re y).1]) (fun t=>((b.length:Int),t)) (fun k t=>t.length≤k) ?_ ?_ (Nat.lt_of_lt_of_le hl hN) (by simp),e]
  · simp
  · intro k t y hy hk ht;refine ⟨?_,by simp;omega⟩;simp only [jy hk,PV,iY,hy,PT,hF y (List.mem_of_getElem? hy),jB (Nat.lt_trans hk hl),l5 ht (Nat.lt_of_le_of_lt hk hl)]
  · intro t _;simp only [jz,PU]
theorem Ho {N:Nat} (hN:ir≤N) {b:List ku} (hb:jr lL b≤1048576):rY N b=some (xN b):=by
  have hb':jr lL b<ir:=small hb;unfold rY xN;rw [KT hN hb',PT];cases xi b
  · rfl
  · simp only [PW,PU,if_true];rw [L8 hN (mG hb') fun y hy=>Cw hN (Nat.le_of_lt_succ (jY (Nat.lt_succ_of_le hb) hy))];rfl
end Go.Kx
