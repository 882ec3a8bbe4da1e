import Derived.Test.YtlcgibcdiikheaaGreatLTree
namespace Go.Kx
open Go
open Go.IntKind (i64)
set_option linter.unusedVariables false
set_option linter.unusedSimpArgs false
set_option maxRecDepth 10000
theorem sc {α β:Type} {p:Nat→α→Bool} {h:Nat→α→β} {z:β}:∀ {l:List α} {k:Nat},z ∈ lE p h k l ↔ ∃ (i:Nat) (y:α),l[i]?=some y∧p (k+i) y=true∧z=h (k+i) y
  | [],k=>by simp [lE]
  | y::l,k=>by
    have ih:=sc (p:=p) (h:=h) (z:=z) (l:=l) (k:=k+1)
    have key:(∃ (i:Nat) (x:α),(y::l)[i]?=some x∧p (k+i) x=true∧z=h (k+i) x) ↔ (p k y=true∧z=h k y)∨z ∈ lE p h (k+1) l:=by
      rw [ih];constructor
      · rintro ⟨i,x,h1,h2,h3⟩
        cases i with
        | zero=>simp at h1;subst h1;exact .inl ⟨h2,h3⟩
        | succ i=>exact .inr ⟨i,x,by simpa using h1,by rwa [show k+1+i=k+(i+1) by omega],by rwa [show k+1+i=k+(i+1) by omega]⟩
      · rintro (⟨h2,h3⟩ | ⟨i,x,h1,h2,h3⟩)
        · exact ⟨0,y,rfl,h2,h3⟩
        · exact ⟨i+1,x,by simpa using h1,by rwa [show k+(i+1)=k+1+i by omega],by rwa [show k+(i+1)=k+1+i by omega]⟩
    rw [key,show lE p h k (y::l)=if p k y then h k y::lE p h (k+1) l else lE p h (k+1) l from rfl];cases hp:p k y<;>simp
structure Ar (l:List cd):Prop where
  len:l.length=10
  Gg:(nth l 0).HA=1
  G9:(nth l 0).box=-1
  GV:(nth l 0).iK=1000000
  ok:∀ o,o ∈ l→kK o=true
  g5:∀ o,o ∈ l→∀ y,y ∈ o.g5→0≤y→(nth l y).HA ≠ 0
  box:∀ (k:Nat) (o:cd),l[k]?=some o→0<k→o.HA ≠ 0→0≤o.box→(nth l o.box).HA ≠ 0
theorem Bc {l:List cd} {k:Nat} {o:cd}:ss l k o=true ↔ kK o=true∧(0<k→o.HA ≠ 0→0≤o.box→(nth l o.box).HA ≠ 0)∧∀ y,y ∈ o.g5→0≤y→(nth l y).HA ≠ 0:=by
  unfold ss tN rl;simp only [H3,List.all_eq_true,Bool.not_eq_true',Bool.and_eq_false_iff,decide_eq_false_iff_not,bne_eq_false_iff_eq,beq_eq_false_iff_ne,ne_eq];constructor
  · rintro ⟨⟨h1,h2⟩,h3⟩;refine ⟨h1,fun a b c=>?_,fun y hy h0=>?_⟩
    · rcases h2 with q | q | q | q
      · omega
      · exact absurd q b
      · omega
      · exact q
    · rcases h3 y hy with q | q
      · omega
      · exact q
  · rintro ⟨h1,h2,h3⟩;refine ⟨⟨h1,?_⟩,fun y hy=>?_⟩
    · by_cases a:0<k
      · by_cases b:o.HA=0
        · exact .inr (.inl b)
        · by_cases c:0≤o.box
          · exact .inr (.inr (.inr (h2 a b c)))
          · exact .inr (.inr (.inl (by omega)))
      · exact .inl (by omega)
    · by_cases c:0≤y
      · exact .inr (h3 y hy c)
      · exact .inl (by omega)
theorem km {l:List cd}:kg l=true ↔ Ar l:=by
  unfold kg uA;simp only [H3,Bool.not_eq_true',bne_eq_false_iff_eq,Bool.or_eq_false_iff,lz,Nat.zero_add,Bc];constructor
  · rintro ⟨h1,⟨h2,h3,h4⟩,h5⟩;have hm:∀ o,o ∈ l→∃ k:Nat,l[k]?=some o:=fun o ho=>List.getElem?_of_mem ho;refine ⟨by omega,h2,h3,h4,fun o ho=>?_,fun o ho=>?_,fun k o hk=>?_⟩
    · obtain ⟨k,hk⟩:=hm o ho;exact (h5 k o hk).1
    · obtain ⟨k,hk⟩:=hm o ho;exact (h5 k o hk).2.2
    · exact (h5 k o hk).2.1
  · intro h;refine ⟨by have:=h.len;omega,⟨h.Gg,h.G9,h.GV⟩,fun i y hy=>⟨h.ok y (List.mem_of_getElem? hy),h.box i y hy,h.g5 y (List.mem_of_getElem? hy)⟩⟩
theorem Ar.at {l:List cd} (h:Ar l) {i:Int} (h0:0≤i) (h9:i≤9):idx l i=some (nth l i)∧nth l i ∈ l:=⟨je h0 (by have:=h.len;omega),kv h0 (by have:=h.len;omega)⟩
theorem Ar.wq {l:List cd} (h:Ar l):l.length<gS:=by rw [h.len];decide
def jq (o:cd) (now:Int):Bool:=bif o.HA==0 then true else decide (o.iK<now)
theorem qu (N:Nat) (o:cd) (now:Int):kB N o now=some (jq o now):=ti _ _ _
def Az (l:List cd) (i:Int) (k:Nat) (y:cd):Bool:=(decide ((k:Int) > 0)&&(y.HA != 0&&((y.box==i)&&((nth l i).HA==1)))) || (nth l i).g5.contains (k:Int)
def mS (l:List cd) (i:Int):List Int:=lE (Az l i) (fun k _=>(k:Int)) 0 l
theorem FJ {o:cd} (h:kK o=true):o.g5.length<gS:=Nat.lt_of_le_of_lt (sj h).1 (by decide)
theorem r9 {l:List cd} {i k:Int} (h:k ∈ mS l i):0≤k∧k<(l.length:Int):=by
  obtain ⟨j,y,h1,_,h3⟩:=sc.1 h;have:=iQ h1;have h3:k=((0+j:Nat):Int):=h3;omega
theorem BW (l:List cd) (i:Int):(mS l i).length≤l.length:=rU _ _ _ _
theorem A5 {l:List cd} (h:Ar l) {i:Int} (h0:0≤i) (h9:i≤9) (hk:(nth l i).HA=0):mS l i=[]:=by
  obtain ⟨_,q2⟩:=h.at h0 h9
  have hl:(nth l i).g5=[]:=by
    have:=h.ok _ q2;unfold kK at this;simp only [hk,beq_self_eq_true,HY,H3,decide_eq_true_eq] at this;rw [this.2.2];rfl
  rw [List.eq_nil_iff_forall_not_mem];intro k hm;obtain ⟨j,y,_,h2,_⟩:=sc.1 hm;simp [Az,hk,hl] at h2
theorem As {N:Nat} (hN:gS≤N) {l:List cd} (hb:iL gX l<gS) (hw:wA l) (h:Ar l) {i:Int} (h0:0≤i) (h9:i≤9):n8 N l i=some (mS l i):=by
  obtain ⟨q1,q2⟩:=h.at h0 h9;have hB:=h.wq
  have hi:ia i 0 9=true:=by rw [iG];omega
  unfold n8;simp only [nQ hN hb hw,km.2 h,ny,hi,q1,HW,HZ,HX];cases hk:(nth l i).HA==0
  · simp only [HX];unfold mS;rw [pJ l (Az l i) (fun k _=>(k:Int)) hB hN]
    · rfl
    · intro k t y hy hk ht;simp only [iX hk,HY,iz,hy,HW,sE hN (FJ (h.ok _ q2)),ns,lB,i5 (Nat.lt_trans hk hB),kr ht (Nat.lt_of_le_of_lt hk hB)];unfold Az;cases decide ((k:Int) > 0)
      · cases (nth l i).g5.contains (k:Int)<;>rfl
      cases y.HA != 0
      · cases (nth l i).g5.contains (k:Int)<;>rfl
      cases y.box==i
      · cases (nth l i).g5.contains (k:Int)<;>rfl
      · cases ((nth l i).HA==1)<;>cases (nth l i).g5.contains (k:Int)<;>rfl
    · intro t;simp only [iW,HX]
  · rw [A5 h h0 h9 (by simpa using hk)];rfl
inductive Reaches (l:List cd) (now:Int):Int→Prop
  | root:Reaches l now 0
  | step {i k:Int}:Reaches l now i→k ∈ mS l i→jq (nth l k) now=false→Reaches l now k
theorem Reaches.v7 {l:List cd} {now:Int} (h:Ar l) {k:Int} (hr:Reaches l now k):0≤k∧k≤9:=by
  cases hr with
  | root=>omega
  | step _ h2 _=>have:=r9 h2;have:=h.len;omega
def vL:List Bool→Nat
  | []=>0
  | b::r=>(if b then 0 else 1)+vL r
def uE (r q:List Bool):Prop:=∀ k:Nat,r[k]?=some true→q[k]?=some true
theorem x9:∀ {r q:List Bool},r.length=q.length→uE r q→vL r≤vL q→r=q
  | [],[],_,_,_=>rfl
  | b::r,c::q,hl,h,hc=>by
    have hl':r.length=q.length:=by simpa using hl
    have h':uE r q:=fun k hk=>by simpa using h (k+1) (by simpa using hk)
    have key:∀ {r q:List Bool},r.length=q.length→uE r q→vL q≤vL r:=by
      intro r
      induction r with
      | nil=>intro q hl _;cases q with
        | nil=>exact Nat.le_refl _
        | cons=>simp at hl
      | cons b r ih =>
        intro q hl h
        cases q with
        | nil=>simp at hl
        | cons c q =>
          have:=ih (q:=q) (by simpa using hl) (fun k hk=>by simpa using h (k+1) (by simpa using hk));have h0:=h 0;simp at h0;simp only [vL];cases b<;>cases c<;>simp_all<;>omega
    have h0:=h 0;simp at h0;have:=key hl' h';simp only [vL] at hc;cases b<;>cases c
    · exact congrArg _ (x9 hl' h' (by simpa using hc))
    · exfalso;simp at hc;omega
    · simp at h0
    · exact congrArg _ (x9 hl' h' (by simpa using hc))
theorem Ee {r:List Bool} {k:Nat}:uE r (r.set k true):=fun j hj=>by
  rw [List.getElem?_set];split
  · rename_i e;subst e;rw [if_pos (iQ hj)]
  · exact hj
theorem setAt {r:List Bool} {k j:Nat} (h:(r.set k true)[j]?=some true):j=k∨r[j]?=some true:=by
  rw [List.getElem?_set] at h;split at h
  · exact .inl (by omega)
  · exact .inr h
def r6 (l:List cd) (now:Int) (r:List Bool) (y:Int):List Bool:=if jq (nth l y) now then r else r.set y.toNat true
def visit (l:List cd) (now:Int) (k:Nat) (r:List Bool) (o:cd):List Bool:=if !(nth r (k:Int)) || (jq o now&&decide ((k:Int) > 0)) then r else (mS l (k:Int)).foldl (r6 l now) r
def qo (l:List cd) (now:Int) (r:List Bool):List Bool:=foldI (visit l now) 0 r l
def nJ (l:List cd) (now:Int):Nat→List Bool→List Bool
  | 0,r=>r
  | n+1,r=>nJ l now n (qo l now r)
def reach (l:List cd) (now:Int):List Bool:=if kg l then nJ l now 10 ((List.replicate 10 false).set 0 true) else []
theorem wL (l:List cd) (now:Int) (r:List Bool) (y:Int):(r6 l now r y).length=r.length:=by unfold r6;split<;>simp
theorem yo (l:List cd) (now:Int):∀ (e:List Int) (r:List Bool),(e.foldl (r6 l now) r).length=r.length
  | [],r=>rfl
  | y::e,r=>by rw [List.foldl_cons,yo l now e,wL]
theorem sb (l:List cd) (now:Int) (k:Nat) (r:List Bool) (o:cd):(visit l now k r o).length=r.length:=by
  unfold visit;split
  · rfl
  · exact yo _ _ _ _
theorem ET (l:List cd) (now:Int) (r:List Bool) (y:Int):uE r (r6 l now r y):=by
  unfold r6;split
  · exact fun _ h=>h
  · exact Ee
theorem wF (l:List cd) (now:Int):∀ (e:List Int) (r:List Bool),uE r (e.foldl (r6 l now) r)
  | [],r=>fun _ h=>h
  | y::e,r=>fun k hk=>wF l now e _ k (ET l now r y k hk)
theorem yB (l:List cd) (now:Int) (k:Nat) (r:List Bool) (o:cd):uE r (visit l now k r o):=by
  unfold visit;split
  · exact fun _ h=>h
  · exact wF _ _ _ _
theorem yM (l:List cd) (now:Int):∀ (e:List Int) (r:List Bool),(∀ y,y ∈ e→y.toNat<r.length)→∀ y,y ∈ e→jq (nth l y) now=false→(e.foldl (r6 l now) r)[y.toNat]?=some true
  | z::e,r,hr,y,hy,hx=>by
    rw [List.foldl_cons]
    rcases List.mem_cons.1 hy with rfl | hy
    · refine wF l now e _ _ ?_;unfold r6;rw [if_neg (by simp [hx]),List.getElem?_set_self (hr y (by simp))]
    · exact yM l now e _ (fun x h=>by rw [wL];exact hr x (by simp [h])) y hy hx
def tY (l:List cd) (now:Int) (r:List Bool):Prop:=∀ k:Nat,r[k]?=some true→Reaches l now (k:Int)
theorem xP {l:List cd} {now i:Int} (hi:Reaches l now i):∀ (e:List Int) (r:List Bool),(∀ y,y ∈ e→y ∈ mS l i)→tY l now r→tY l now (e.foldl (r6 l now) r)
  | [],r,_,h=>h
  | y::e,r,he,h=>by
    rw [List.foldl_cons];refine xP hi e _ (fun x hx=>he x (by simp [hx])) ?_;unfold r6;split
    · exact h
    · rename_i hx;intro k hk
      rcases setAt hk with q | q
      · have hy:=he y (by simp);have:=r9 hy
        have e:(k:Int)=y:=by omega
        rw [e];exact .step hi hy (by simpa using hx)
      · exact h k q
theorem yX {r:List Bool} {k:Nat}:nth r (k:Int)=true ↔ r[k]?=some true:=by
  unfold nth;rw [Int.toNat_natCast]
  cases h:r[k]? with
  | none=>simp;try rfl
  | some b=>simp
theorem tq {l:List cd} {now:Int} {k:Nat} {r:List Bool} {o:cd} (h:tY l now r):tY l now (visit l now k r o):=by
  unfold visit;split
  · exact h
  · rename_i hc;simp only [Bool.or_eq_true,Bool.not_eq_true',not_or,Bool.not_eq_false] at hc;exact xP (h k (yX.1 hc.1)) _ _ (fun _ hy=>hy) h
theorem si {l:List cd} {now:Int}:∀ (m:List cd) (k:Nat) (r:List Bool),tY l now r→(foldI (visit l now) k r m).length=r.length∧uE r (foldI (visit l now) k r m)∧tY l now (foldI (visit l now) k r m)
  | [],k,r,h=>⟨rfl,fun _ h=>h,h⟩
  | o::m,k,r,h=>by
    obtain ⟨h1,h2,h3⟩:=si m (k+1) (visit l now k r o) (tq h);exact ⟨by unfold foldI;rw [h1,sb],fun j hj=>h2 j (yB l now k r o j hj),h3⟩
def we (l:List cd) (now:Int) (r q:List Bool):Prop:=∀ i:Nat,r[i]?=some true→∀ y,y ∈ mS l (i:Int)→jq (nth l y) now=false→q[y.toNat]?=some true
theorem AF {l:List cd} {now:Int} (h:Ar l) {k:Int} (hr:Reaches l now k) (hk:k ≠ 0):jq (nth l k) now=false:=by
  cases hr with
  | root=>exact absurd rfl hk
  | step _ _ h3=>exact h3
theorem xi {l:List cd} {now:Int} (h:Ar l):∀ (m:List cd) (k:Nat) (r q:List Bool),(∀ j:Nat,m[j]?=l[k+j]?)→r.length=10→tY l now r→uE q r→∀ i:Nat,k≤i→q[i]?=some true→∀ y,y ∈ mS l (i:Int)→jq (nth l y) now=false→(foldI (visit l now) k r m)[y.toNat]?=some true
  | [],k,r,q,hm,hr,hs,hq,i,hi,hqi,y,hy,hx=>by
    have:=(hs i (hq i hqi)).v7 h;have h2:=hm (i - k);rw [show k+(i - k)=i by omega] at h2;have:=h.len;rw [List.getElem?_eq_getElem (show i<l.length by omega)] at h2;simp at h2
  | o::m,k,r,q,hm,hr,hs,hq,i,hi,hqi,y,hy,hx=>by
    have ho:l[k]?=some o:=by have:=hm 0;simpa using this.symm
    unfold foldI
    rcases Nat.eq_or_lt_of_le hi with e | hlt
    · subst e;refine (si m (k+1) _ (tq hs)).2.1 _ ?_;have hk:nth r (k:Int)=true:=yX.2 (hq k hqi)
      have hn:(jq o now&&decide ((k:Int) > 0))=false:=by
        by_cases h0:k=0
        · subst h0;simp
        · have:=AF h (hs k (hq k hqi)) (by omega);rw [yT ho] at this;simp [this]
      unfold visit;rw [if_neg (by rw [hk,hn];decide)];exact yM l now _ r (fun z hz=>by have:=r9 hz;have:=h.len;omega) y hy hx
    · exact xi h m (k+1) (visit l now k r o) q (fun j=>by have:=hm (j+1);rw [show k+1+j=k+(j+1) by omega, ← this];rfl) (by rw [sb,hr]) (tq hs) (fun j hj=>yB l now k r o j (hq j hj)) i hlt hqi y hy hx
theorem tu {l:List cd} {now:Int} (h:Ar l):∀ (n:Nat) (r:List Bool),r.length=10→tY l now r→(nJ l now n r).length=10∧uE r (nJ l now n r)∧tY l now (nJ l now n r)∧(vL r<n→we l now (nJ l now n r) (nJ l now n r))
  | 0,r,hr,hs=>⟨hr,fun _ h=>h,hs,fun h=>by omega⟩
  | n+1,r,hr,hs=>by
    obtain ⟨p1,p2,p3⟩:=si (l:=l) (now:=now) l 0 r hs;have p4:=fun i hi=>xi h l 0 r r (fun j=>by rw [Nat.zero_add]) hr hs (fun _ h=>h) i (Nat.zero_le _) hi;obtain ⟨q1,q2,q3,q4⟩:=tu h n (qo l now r) (by unfold qo;rw [p1,hr]) p3;refine ⟨q1,fun k hk=>q2 k (p2 k hk),q3,fun hc=>?_⟩
    by_cases hcl:vL (qo l now r)<n
    · exact q4 hcl
    · have e:r=qo l now r:=x9 p1.symm p2 (by omega)
      have fix:∀ m,nJ l now m r=r:=by
        intro m
        induction m with
        | zero=>rfl
        | succ m ih=>unfold nJ;rw [← e,ih]
      rw [fix (n+1)];intro i hi y hy hx;have:=p4 i hi y hy hx
      rwa [show foldI (visit l now) 0 r l=r from e.symm] at this
def Gy (l:List cd) (now:Int) (r:List Bool):Prop:=r.length=10∧∀ k:Nat,r[k]?=some true ↔ Reaches l now (k:Int)
theorem EP {l:List cd} {now:Int} (h:Ar l) {r:List Bool} (hl:r.length=10) (hs:tY l now r) (h0:r[0]?=some true) (hc:we l now r r):Gy l now r:=by
  refine ⟨hl,fun k=>⟨hs k,fun hr=>?_⟩⟩
  have key:∀ j:Int,Reaches l now j→r[j.toNat]?=some true:=by
    intro j hj
    induction hj with
    | root=>exact h0
    | step h1 h2 h3 ih =>
      rename_i i k;have:=(Reaches.v7 h h1);refine hc i.toNat ih k ?_ h3
      rwa [show ((i.toNat:Nat):Int)=i by omega]
  simpa using key k hr
theorem EJ (l:List cd) (now:Int):tY l now ((List.replicate 10 false).set 0 true):=fun k hk=>by
  rcases setAt hk with q | q
  · subst q;exact .root
  · rw [List.getElem?_replicate] at q;split at q<;>simp at q
theorem CY {l:List cd} (h:Ar l) (now:Int):Gy l now (reach l now):=by
  unfold reach;rw [if_pos (km.2 h)];obtain ⟨q1,q2,q3,q4⟩:=tu (now:=now) h 10 ((List.replicate 10 false).set 0 true) rfl (EJ l now);exact EP h q1 q3 (q2 0 rfl) (q4 (by decide))
theorem pG {l:List cd} (h:Ar l) (now:Int):(reach l now).length=10:=(CY h now).1
theorem tV {l:List cd} {now:Int}:∀ (m:List cd) (k:Nat) (r:List Bool),(foldI (visit l now) k r m).length=r.length
  | [],k,r=>rfl
  | o::m,k,r=>by unfold foldI;rw [tV m,sb]
theorem El {N:Nat} (hN:gS≤N) {l:List cd} (h:Ar l) {now:Int} {e:List Int} (he:∀ y,y ∈ e→0≤y∧y≤9) (hl:e.length≤10) {r:List Bool} (hr:r.length=10) :
    iter (fun (s67:(List Bool)×Int)=>(bif (decide (s67.2<(e.length:Int))) then ((idx e s67.2).bind fun y70=>(idx l y70).bind fun y83=>bif (!(jq y83 now)) then ((idx s67.1 y70).bind fun y104=>some (.inl (s67.1.set (y70:Int).toNat true,i64.wrap (s67.2+1)))) else (some (.inl (s67.1,i64.wrap (s67.2+1))))) else (some (.inr (s67.1,s67.2))):Option (((List Bool)×Int)⊕((List Bool)×Int)))) N (r,0)=some (e.foldl (r6 l now) r,(e.length:Int)):=by
  have hB:e.length<gS:=Nat.lt_of_le_of_lt hl (by decide)
  rw [show (r,(0:Int))=(fun (k:Nat) (t:List Bool)=>(t,(k:Int))) 0 r from rfl,
    jQ e (fun (k:Nat) (t:List Bool)=>(t,(k:Int))) (fun _ t y=>r6 l now t y) (fun t=>(t,(e.length:Int))) (fun _ t=>t.length=10) ?_ ?_ (Nat.lt_of_lt_of_le hB hN) hr,lK]
  · intro k t y hy hk ht;obtain ⟨y0,y9⟩:=he y (List.mem_of_getElem? hy);refine ⟨?_,by rw [wL,ht]⟩;simp only [iX hk,HY,iz,hy,HW,(h.at y0 y9).1,qu,i5 (Nat.lt_trans hk hB),je (l:=t) y0 (by omega)];unfold r6;cases jq (nth l y) now<;>rfl
  · intro t _;simp only [iW,HX]
theorem sH {l:List cd} (h:Ar l) (i:Int):(∀ y,y ∈ mS l i→0≤y∧y≤9)∧(mS l i).length≤10:=by
  have:=h.len;refine ⟨fun y hy=>by have:=r9 hy;omega,by have:=BW l i;omega⟩
theorem Ap {N:Nat} (hN:gS≤N) {l:List cd} (hb:iL gX l<gS) (hw:wA l) (now:Int):pC N l now=some (reach l now):=by
  unfold pC reach;rw [nQ hN hb hw,HW];cases ha:kg l
  · rfl
  have h:=km.1 ha;have hB:=h.wq;simp only [HZ,HX,if_true];rw [show mk Bool 10=some (List.replicate 10 false) from rfl];simp only [HW];rw [show idx (List.replicate 10 false) 0=some false from rfl];simp only [HW]
  have hin:∀ r:List Bool,r.length=10→iter (fun (s21:(List Bool)×Int)=>(bif (decide (s21.2<(l.length:Int))) then (((idx s21.1 s21.2).bind fun y26=>bif (!y26) then (some true) else ((idx l s21.2).bind fun y40=>(kB N y40 now).bind fun y58=>bif y58 then (some (decide (s21.2 > 0))) else (some false)):Option Bool).bind fun j24=>bif j24 then (some (.inl (s21.1,i64.wrap (s21.2+1)))) else ((n8 N l s21.2).bind fun y63=>(iter (fun (s67:(List Bool)×Int)=>(bif (decide (s67.2<(y63.length:Int))) then ((idx y63 s67.2).bind fun y70=>(idx l y70).bind fun y83=>(kB N y83 now).bind fun y101=>bif (!y101) then ((idx s67.1 y70).bind fun y104=>some (.inl (s67.1.set (y70:Int).toNat true,i64.wrap (s67.2+1)))) else (some (.inl (s67.1,i64.wrap (s67.2+1))))) else (some (.inr (s67.1,s67.2))):Option (((List Bool)×Int)⊕((List Bool)×Int)))) N (s21.1,0)).bind fun o111=>some (.inl (o111.1,i64.wrap (s21.2+1))))) else (some (.inr (s21.1,s21.2))):Option (((List Bool)×Int)⊕((List Bool)×Int)))) N (r,0)=some (qo l now r,(l.length:Int)):=by
    intro r hr
    rw [show (r,(0:Int))=(fun (k:Nat) (t:List Bool)=>(t,(k:Int))) 0 r from rfl,
      jQ l (fun (k:Nat) (t:List Bool)=>(t,(k:Int))) (fun k t y=>visit l now k t y) (fun t=>(t,(l.length:Int))) (fun _ t=>t.length=10) ?_ ?_ (Nat.lt_of_lt_of_le hB hN) hr]
    · rfl
    · intro k t y hy hk ht
      have hk10:k<10:=by rw [← h.len];exact hk
      refine ⟨?_,by rw [sb,ht]⟩;simp only [iX hk,HY];rw [je (l:=t) (i:=(k:Int)) (by omega) (by omega)];simp only [iz,hy,HW,qu,i5 (Nat.lt_trans hk hB)];rw [As hN hb hw h (i:=(k:Int)) (by omega) (by omega),HW,El hN h (sH h _).1 (sH h _).2 ht];unfold visit;cases nth t (k:Int)<;>cases jq y now<;>cases decide ((k:Int) > 0)<;>rfl
    · intro t _;simp only [iW,HX]
  have hout:∀ (n:Nat) (j:Nat) (r:List Bool),r.length=10→foldI (fun _ t (_:Unit)=>qo l now t) j r (List.replicate n ())=nJ l now n r:=by
    intro n
    induction n with
    | zero=>intro j r _;rfl
    | succ n ih=>intro j r hr;rw [List.replicate_succ];unfold foldI nJ;exact ih _ _ (by
        have:=tV (l:=l) (now:=now) l 0 r
        unfold qo;rw [this,hr])
  rw [show (((List.replicate 10 false).set (0:Int).toNat true,(0:Int)):List Bool×Int)=(fun (k:Nat) (t:List Bool)=>(t,(k:Int))) 0 ((List.replicate 10 false).set 0 true) from rfl,
    jQ (List.replicate 10 ()) (fun (k:Nat) (t:List Bool)=>(t,(k:Int))) (fun _ t _=>qo l now t) (fun t=>(t,(10:Int))) (fun _ t=>t.length=10) ?_ ?_ (GA (k:=0) hN (by decide)) rfl,hout 10 0 _ rfl]
  · rfl
  · intro k t y hy hk ht
    have hk:k<10:=by simpa using hk
    refine ⟨?_,by have:=tV (l:=l) (now:=now) l 0 t;unfold qo;rw [this,ht]⟩
    have h3:decide ((k:Int)<10)=true:=by simp;omega
    simp only [h3,HY];rw [hin t ht];simp only [HW,i5 (show k<gS from Nat.lt_trans hk (by decide))]
  · intro t _;rfl
theorem oh {h:g7} (q:ki h=true):Ar h.ag:=by
  unfold ki at q;simp only [H3] at q;exact km.1 q.1
def threads (p:bh) (now:Int):List Int:=if jr p then lE (fun k b=>b&&((nth p.py.ag (k:Int)).HA==4)) (fun k _=>(k:Int)) 0 (reach p.py.ag now) else []
theorem jU {p:bh} (h:jr p=true):Ar p.py.ag:=by
  unfold jr ki at h;simp only [H3] at h;exact km.1 h.2.2.2.1.1
theorem ni {p:bh} {now k:Int} (h:k ∈ threads p now):jr p=true∧0≤k∧k≤9:=by
  unfold threads at h;split at h
  · rename_i hp;obtain ⟨j,b,h1,_,h3⟩:=sc.1 h;have:=iQ h1;rw [pG (jU hp)] at this;have h3:k=((0+j:Nat):Int):=h3;exact ⟨hp,by omega,by omega⟩
  · simp at h
theorem zd {N:Nat} (hN:gS≤N) {l:List cd} (h:Ar l) {now:Int} {body:List Int×Int→Option ((List Int×Int)⊕(List Int×Int))}
    (hs:∀ (k:Nat) (t:List Int) (b:Bool),(reach l now)[k]?=some b→k<10→t.length≤k→body (t,(k:Int))=some (.inl (if b&&((nth l (k:Int)).HA==4) then t++[(k:Int)] else t,((k+1:Nat):Int))))
    (he:∀ t,body (t,10)=some (.inr (t,10))):iter body N ([],0)=some (lE (fun k b=>b&&((nth l (k:Int)).HA==4)) (fun k _=>(k:Int)) 0 (reach l now),10):=by
  have hl:=pG h now
  have e:((reach l now).length:Int)=10:=by omega
  rw [pJ (reach l now) (fun k b=>b&&((nth l (k:Int)).HA==4)) (fun k _=>(k:Int)) (by rw [hl];decide) hN,e]
  · intro k t b hb hk ht;exact hs k t b hb (by omega) ht
  · intro t;rw [e];exact he t
theorem r7 {N:Nat} (hN:gS≤N) {p:bh} (hb:ib p<gS) (hw:wP p) (now:Int):lM N p now=some (threads p now):=by
  unfold lM threads;rw [ph hN hb hw,HW];cases hp:jr p
  · rfl
  have h:=jU hp;have hl:=pG h now;simp only [HZ,HX,Ap hN (kc hb).2.2.2.1 hw,HW,if_true];rw [zd hN h]
  · rfl
  · intro k t b hy hk ht
    have hd:decide ((k:Int)<((reach p.py.ag now).length:Int))=true:=by simp;omega
    simp only [hd,HY];rw [(h.at (i:=(k:Int)) (by omega) (by omega)).1];simp only [iz,hy,HW,ns,i5 (show k<gS from Nat.lt_trans hk (by decide)),kr ht (show k+1<gS from Nat.lt_trans (Nat.succ_lt_succ hk) (by decide))];cases (b&&((nth p.py.ag (k:Int)).HA==4))<;>rfl
  · intro t;simp only [hl];rfl
theorem so (p:bh) (now:Int):(threads p now).length<gS:=by
  unfold threads;split
  · rename_i hp;refine Nat.lt_of_le_of_lt (rU _ _ _ _) ?_;rw [pG (jU hp)];decide
  · decide
def mI (p:bh) (now:Int) (th:Int):Bool:=(threads p now).contains th&&((nth p.py.ag th).HK==0)
theorem xv {N:Nat} (hN:gS≤N) {p:bh} (hb:ib p<gS) (hw:wP p) (now th:Int):nn N p now th=some (mI p now th):=by
  unfold nn mI;simp only [r7 hN hb hw,HW,sE hN (so p now)];cases hc:(threads p now).contains th
  · rfl
  · obtain ⟨h1,h2,h3⟩:=ni (List.contains_iff_mem.1 hc);simp only [HY,((jU h1).at h2 h3).1,HW,H0]
end Go.Kx
