import Derived.Test.YtlcgibcdiikheaaGreatDat
namespace Go.Kx
open Go
open Go.IntKind (i64)
set_option linter.unusedVariables false
set_option linter.unusedSimpArgs false
theorem jg {n:Int} (h1:-9223372036854775808≤n) (h2:n≤9223372036854775807):i64.wrap n=n:=by
  simp [IntKind.wrap,IntKind.signed,IntKind.bits];omega
theorem ik {α:Type} (l:List α) (k:Nat):idx l (k:Int)=l[k]?:=by simp [idx]
theorem GQ {σ ρ:Type} {body:σ→Option (σ⊕ρ)} (f:Nat→σ) (len:Nat) {r:ρ} (hstep:∀ k,k<len→body (f k)=some (.inl (f (k+1)))) (hend:body (f len)=some (.inr r)) :
    ∀ (d:Nat) {N:Nat} {k:Nat},k+d=len→d<N→iter body N (f k)=some r
  | 0,N+1,k,hk,_=>by
    have:k=len:=by omega
    subst this;simp [iter,hend]
  | d+1,N+1,k,hk,hN=>by
    unfold iter;rw [hstep k (by omega)];exact GQ f len hstep hend d (by omega) (by omega)
theorem xb {σ ρ:Type} {body:σ→Option (σ⊕ρ)} (f:Nat→σ) (len:Nat) {r:ρ} {N:Nat} (hN:len<N) (hstep:∀ k,k<len→body (f k)=some (.inl (f (k+1)))) (hend:body (f len)=some (.inr r)) :
    iter body N (f 0)=some r:=GQ f len hstep hend len (by omega) hN
section
variable {α:Type} [hD α]
theorem Ax (x:List α) (g:α→Option α) (hg:∀ y,y ∈ x→g y=some y) (hb:x.length<gT) {N:Nat} (hN:x.length<N) :
    ((mk α (x.length:Int)).bind fun y1=>(iter (fun (s:(List α)×Int)=>(bif (decide (s.2<(x.length:Int))) then ((idx x s.2).bind fun y7=>(g y7).bind fun y16=>(idx s.1 s.2).bind fun y18 =>
      (some (s.1.set (s.2:Int).toNat y16)).bind fun y22=>some (.inl (y22,i64.wrap (s.2+1)))) else (some (.inr (s.1,s.2))):Option (((List α)×Int)⊕((List α)×Int)))) N (y1,0)).bind fun o=>some o.1)=some x:=by
  have hmk:mk α (x.length:Int)=some (List.replicate x.length hD.zero):=by simp [mk,hb]
  rw [hmk];have hB:x.length<16777216:=hb
  let f:Nat→(List α)×Int:=fun k=>(x.take k++List.replicate (x.length - k) hD.zero,(k:Int))
  have h0:f 0=(List.replicate x.length hD.zero,0):=by simp [f]
  show Option.bind (iter _ N (List.replicate x.length hD.zero,(0:Int))) (fun o:(List α)×Int=>some o.1)=some x
  rw [← h0,xb f x.length (r:=(x,(x.length:Int))) hN]
  · rfl
  · intro k hk
    have hk':(k:Int)<(x.length:Int):=by omega
    have e1:idx x ((k:Nat):Int)=some x[k]:=by rw [ik];exact List.getElem?_eq_getElem hk
    have e2:idx (x.take k++List.replicate (x.length - k) hD.zero) ((k:Nat):Int)=some hD.zero:=by
      rw [ik,List.getElem?_append_right (by simp;omega)];simp [List.getElem?_replicate];omega
    have e3:i64.wrap ((k:Int)+1)=((k+1:Nat):Int):=by rw [jg (by omega) (by omega)];omega
    have e4:(x.take k++List.replicate (x.length - k) hD.zero).set k x[k]=x.take (k+1)++List.replicate (x.length - (k+1)) hD.zero:=by
      have:x.length - k=(x.length - (k+1))+1:=by omega
      rw [this,List.replicate_succ,List.set_append_right _ _ (by simp;omega)]
      have:k - (x.take k).length=0:=by simp;omega
      rw [this,List.set_cons_zero,List.take_succ_eq_append_getElem hk,List.append_assoc];rfl
    simp only [f,hk',decide_true,PD,e1,e2,hg _ (List.getElem_mem hk),PB,e3,Int.toNat_natCast,e4]
  · simp [f]
end
theorem uY {α:Type} (x:List α) (e:α→α→Option Bool) (he:∀ y,y ∈ x→e y y=some true) (hb:x.length<9223372036854775807) {N:Nat} (hN:x.length<N) :
    (bif ((x.length:Int) != (x.length:Int)) then (some false) else ((iter (fun (s2:Int)=>(bif (decide (s2<(x.length:Int))) then ((idx x s2).bind fun y4=>(idx x s2).bind fun y13=>(e y4 y13).bind fun y22 =>
      bif (!y22) then (some (.inr (.inr false))) else (some (.inl (i64.wrap (s2+1))))) else (some (.inr (.inl s2))):Option (Int⊕(Int⊕Bool)))) N 0).bind fun o25=>Sum.elim (fun o25=>some true) (fun r28=>some r28) o25))=some true:=by
  have h0:((x.length:Int) != (x.length:Int))=false:=by simp
  rw [h0,PC];rw [show (0:Int)=(fun k:Nat=>(k:Int)) 0 from rfl,xb (fun k:Nat=>(k:Int)) x.length (r:=.inl (x.length:Int)) hN]
  · rfl
  · intro k hk
    have hk':(k:Int)<(x.length:Int):=by omega
    have e1:idx x ((k:Nat):Int)=some x[k]:=by rw [ik];exact List.getElem?_eq_getElem hk
    have e3:i64.wrap ((k:Int)+1)=((k+1:Nat):Int):=by rw [jg (by omega) (by omega)];omega
    simp only [hk',decide_true,PD,e1,PB,he _ (List.getElem_mem hk),PE,PC,e3]
  · simp
def lg {α τ ρ:Type} (g:Nat→τ→α→τ⊕ρ) (fin:τ→ρ):Nat→τ→List α→ρ
  | _,t,[]=>fin t
  | k,t,y::l=>match g k t y with
    | .inl t'=>lg g fin (k+1) t' l
    | .inr r=>r
theorem lK {α σ τ ρ:Type} {body:σ→Option (σ⊕ρ)} (x:List α) (f:Nat→τ→σ) (g:Nat→τ→α→τ⊕ρ) (fin:τ→ρ) (I:Nat→τ→Prop)
    (hs:∀ k t y,x[k]?=some y→k<x.length→I k t→body (f k t)=some ((g k t y).map (f (k+1)) id)∧∀ t',g k t y=.inl t'→I (k+1) t')
    (he:∀ t,I x.length t→body (f x.length t)=some (.inr (fin t))) {N:Nat} (hN:x.length<N) {t:τ} (h0:I 0 t):iter body N (f 0 t)=some (lg g fin 0 t x):=by
  have key:∀ (l:List α) (k:Nat) (t:τ) (M:Nat),x.drop k=l→k≤x.length→I k t→l.length<M→iter body M (f k t)=some (lg g fin k t l):=by
    intro l
    induction l with
    | nil =>
      intro k t M hd hk hI hM
      have:k=x.length:=by
        have:=congrArg List.length hd;simp at this;omega
      subst this
      cases M with
      | zero=>simp at hM
      | succ M=>unfold iter;rw [he t hI];rfl
    | cons y l ih =>
      intro k t M hd hk hI hM
      have hlt:k<x.length:=by
        have:=congrArg List.length hd;simp at this;omega
      have hy:x[k]?=some y:=by
        have:=congrArg (·[0]?) hd;simpa using this
      obtain ⟨h1,h2⟩:=hs k t y hy hlt hI
      cases M with
      | zero=>simp at hM
      | succ M =>
        unfold iter;rw [h1]
        cases hg:g k t y with
        | inl t' =>
          have e:x.drop (k+1)=l:=by rw [← List.drop_drop,hd];rfl
          simp only [Sum.map_inl,PB,lg,hg];exact ih (k+1) t' M e hlt (h2 t' hg) (by simp at hM;omega)
        | inr r=>simp [lg,hg]
  exact key x 0 t N rfl (by omega) h0 hN
def allI {α:Type} (p:Nat→α→Bool):Nat→List α→Bool
  | _,[]=>true
  | k,y::l=>p k y&&allI p (k+1) l
theorem kh {α:Type} (p:α→Bool):∀ (l:List α) (k:Nat),allI (fun _ y=>p y) k l=l.all p
  | [],_=>rfl
  | y::l,k=>by simp [allI,kh p l]
theorem l7 {α:Type} {p:Nat→α→Bool}:∀ {l:List α} {k:Nat},allI p k l=true ↔ ∀ (i:Nat) (y:α),l[i]?=some y→p (k+i) y=true
  | [],k=>by simp [allI]
  | y::l,k=>by
    simp only [allI,PG,l7 (l:=l)];constructor
    · rintro ⟨h1,h2⟩ i z hz
      cases i with
      | zero=>simp at hz;subst hz;simpa using h1
      | succ i=>have:=h2 i z (by simpa using hz);rwa [show k+(i+1)=k+1+i by omega]
    · intro h;refine ⟨by simpa using h 0 y rfl,fun i z hz=>?_⟩;have:=h (i+1) z (by simpa using hz)
      rwa [show k+(i+1)=k+1+i by omega] at this
theorem EK {α ρ:Type} (p:Nat→α→Bool) (r r':ρ):∀ (l:List α) (k:Nat),lg (fun k (_:Unit) y=>if p k y then .inl () else .inr r') (fun _=>r) k () l=if allI p k l then r else r'
  | [],k=>rfl
  | y::l,k=>by
    unfold lg allI;cases h:p k y
    · simp
    · simp [EK p r r' l (k+1)]
theorem jT {α ρ:Type} {body:Int→Option (Int⊕ρ)} (x:List α) (p:Nat→α→Bool) (r r':ρ) {N:Nat} (hN:x.length<N)
    (hs:∀ (k:Nat) (y:α),x[k]?=some y→k<x.length→body (k:Int)=some (if p k y then .inl ((k+1:Nat):Int) else .inr r')) (he:body (x.length:Int)=some (.inr r)):iter body N 0=some (if allI p 0 x then r else r'):=by
  rw [show (0:Int)=(fun (k:Nat) (_:Unit)=>(k:Int)) 0 () from rfl,lK x (fun k (_:Unit)=>(k:Int)) (fun k _ y=>if p k y then .inl () else .inr r') (fun _=>r) (fun _ _=>True) ?_ (fun _ _=>he) hN trivial,EK];intro k _ y hy hk _;refine ⟨?_,fun _ _=>trivial⟩;rw [hs k y hy hk];cases p k y<;>rfl
def foldI {α τ:Type} (g:Nat→τ→α→τ):Nat→τ→List α→τ
  | _,t,[]=>t
  | k,t,y::l=>foldI g (k+1) (g k t y) l
theorem lk {α τ:Type} (g:τ→α→τ):∀ (l:List α) (k:Nat) (t:τ),foldI (fun _=>g) k t l=l.foldl g t
  | [],_,_=>rfl
  | y::l,k,t=>lk g l (k+1) (g t y)
theorem CF {α τ ρ:Type} (g:Nat→τ→α→τ) (fin:τ→ρ):∀ (l:List α) (k:Nat) (t:τ),lg (fun k t y=>.inl (g k t y)) fin k t l=fin (foldI g k t l)
  | [],_,_=>rfl
  | y::l,k,t=>CF g fin l (k+1) (g k t y)
theorem j0 {α σ τ ρ:Type} {body:σ→Option (σ⊕ρ)} (x:List α) (f:Nat→τ→σ) (g:Nat→τ→α→τ) (fin:τ→ρ) (I:Nat→τ→Prop)
    (hs:∀ k t y,x[k]?=some y→k<x.length→I k t→body (f k t)=some (.inl (f (k+1) (g k t y)))∧I (k+1) (g k t y))
    (he:∀ t,I x.length t→body (f x.length t)=some (.inr (fin t))) {N:Nat} (hN:x.length<N) {t:τ} (h0:I 0 t):iter body N (f 0 t)=some (fin (foldI g 0 t x)):=by
  rw [lK x f (fun k t y=>.inl (g k t y)) fin I (fun k t y hy hk hI=>?_) he hN h0,CF];obtain ⟨h1,h2⟩:=hs k t y hy hk hI;exact ⟨h1,fun t' h=>by cases h;exact h2⟩
def mF {α β:Type} (p:Nat→α→Bool) (h:Nat→α→β):Nat→List α→List β
  | _,[]=>[]
  | k,y::l=>if p k y then h k y::mF p h (k+1) l else mF p h (k+1) l
theorem wY {α β:Type} (p:Nat→α→Bool) (h:Nat→α→β):∀ (l:List α) (k:Nat),(mF p h k l).length≤l.length
  | [],_=>Nat.le_refl _
  | y::l,k=>by
    unfold mF;have:=wY p h l (k+1);split<;>simp<;>omega
theorem pg {α:Type} (p:α→Bool):∀ (l:List α) (k:Nat),mF (fun _ y=>p y) (fun _ y=>y) k l=l.filter p
  | [],_=>rfl
  | y::l,k=>by
    unfold mF;rw [pg p l,List.filter_cons]
theorem A2 {α β:Type} (p:Nat→α→Bool) (h:Nat→α→β):∀ (l:List α) (k:Nat) (acc:List β),foldI (fun k (acc:List β) y=>if p k y then acc++[h k y] else acc) k acc l=acc++mF p h k l
  | [],_,acc=>by simp [foldI,mF]
  | y::l,k,acc=>by
    unfold foldI mF;rw [A2 p h l];cases p k y<;>simp
theorem kB {α:Type} {t:List α} {z:α} {k:Nat} (h:t.length≤k) (hk:k+1<gT):app t [z]=some (t++[z]):=by
  unfold app;rw [if_pos (by simp;omega)]
theorem n4 {α β:Type} {body:List β×Int→Option ((List β×Int)⊕(List β×Int))} (x:List α) (p:Nat→α→Bool) (h:Nat→α→β) (hb:x.length<gT) {N:Nat} (hN:gT≤N)
    (hs:∀ (k:Nat) (t:List β) (y:α),x[k]?=some y→k<x.length→t.length≤k→body (t,(k:Int))=some (.inl (if p k y then t++[h k y] else t,((k+1:Nat):Int))))
    (he:∀ t,body (t,(x.length:Int))=some (.inr (t,(x.length:Int)))):iter body N ([],0)=some (mF p h 0 x,(x.length:Int)):=by
  rw [show (([]:List β),(0:Int))=(fun (k:Nat) (t:List β)=>(t,(k:Int))) 0 [] from rfl,
    j0 x (fun (k:Nat) (t:List β)=>(t,(k:Int))) (fun k acc y=>if p k y then acc++[h k y] else acc) (fun t=>(t,(x.length:Int))) (fun k t=>t.length≤k) (fun k t y hy hk hI=>?_) (fun t _=>he t) (Nat.lt_of_lt_of_le hb hN) (by simp),A2]
  · simp
  · refine ⟨hs k t y hy hk hI,?_⟩;cases p k y<;>simp<;>omega
theorem iF {k n:Nat} (h:k<n):decide ((k:Int)<(n:Int))=true:=by simpa using h
theorem iG (n:Nat):decide ((n:Int)<(n:Int))=false:=by simp
theorem iJ {k:Nat} (h:k<gT):i64.wrap ((k:Int)+1)=((k+1:Nat):Int):=by
  have:k<16777216:=h;rw [jg (by omega) (by omega)];omega
def gW {α:Type} (f:α→Nat):List α→Nat
  | []=>0
  | x::l=>f x+gW f l
def iQ {α:Type} (f:α→Nat) (l:List α):Nat:=l.length+gW f l
theorem DF {α:Type} {f:α→Nat} {y:α}:∀ {l:List α},y ∈ l→f y≤gW f l
  | z::l,h=>by
    rcases List.mem_cons.1 h with rfl | h
    · exact Nat.le_add_right _ _
    · exact Nat.le_trans (DF h) (Nat.le_add_left _ _)
theorem jh {α:Type} {f:α→Nat} {y:α} {l:List α} {B:Nat} (hb:iQ f l<B) (h:y ∈ l):f y<B:=Nat.lt_of_le_of_lt (Nat.le_trans (DF h) (Nat.le_add_left _ _)) hb
theorem jj {α:Type} {f:α→Nat} {l:List α} {B:Nat} (hb:iQ f l<B):l.length<B:=Nat.lt_of_le_of_lt (Nat.le_add_right _ _) hb
def left (b:Int) (n:Nat):Int:=if (n:Int)≤b then b - n else -1
theorem Ai {b:Int} {n:Nat} (hb:0≤b):decide (left b n<0)=!decide ((n:Int)≤b):=by
  unfold left
  by_cases h:(n:Int)≤b
  · rw [if_pos h];simp [h]
  · rw [if_neg h];simp [h]
theorem yB {b:Int} {n m:Nat} (h:(n:Int)≤b):left (left b n) m=left b (n+m):=by
  unfold left;rw [if_pos h]
  by_cases h2:((n+m:Nat):Int)≤b
  · rw [if_pos h2,if_pos (by omega)];omega
  · rw [if_neg h2,if_neg (by omega)]
theorem CA {b:Int} (h:0≤b):left b 0=b:=by unfold left;rw [if_pos (by omega)];omega
theorem DK {b:Int} {n m:Nat} {e:Option Int} {k:Int→Option Int} (h0:0≤b) (h1:b≤1048576) (he:e=some (left b n)) (hk:∀ b,0≤b→b≤1048576→k b=some (left b m)) :
    e.bind (fun y=>bif (decide (y<0)) then (some (-1)) else k y)=some (left b (n+m)):=by
  rw [he,PB,Ai h0]
  by_cases h:(n:Int)≤b
  · have e1:left b n=b - n:=if_pos h;simp only [h,decide_true,PE,PC];rw [e1,hk _ (by omega) (by omega), ← e1,yB h]
  · simp only [h,decide_false,Bool.not_false,PD];unfold left;rw [if_neg (by omega)]
theorem IW {α:Type} (x:List α) (b:Int) (h0:0≤b) (h1:b≤1048576) (hx:x.length≤maxLen) :
    (bif (decide ((i64.wrap (b - (x.length:Int)))<0)) then (some (-1)) else (some (i64.wrap (b - (x.length:Int)))))=some (left b x.length):=by
  have hm:x.length≤9223372036854775807:=hx;rw [jg (by omega) (by omega)];unfold left
  by_cases h:(x.length:Int)≤b
  · rw [if_pos h,decide_eq_false (by omega),PC]
  · rw [if_neg h,decide_eq_true (by omega),PD]
theorem Np {α:Type} (x:List α) (b:Int) (h0:0≤b) (h1:b≤1048576) (hx:x.length≤maxLen) (e:α→Int→Option Int) (f:α→Nat) (he:∀ y,y ∈ x→∀ b,0≤b→b≤1048576→e y b=some (left b (f y))) {N:Nat} (hN:gT≤N) :
    (bif (decide ((i64.wrap (b - (x.length:Int)))<0)) then (some (-1)) else ((iter (fun (s2:Int×Int)=>(bif (decide (s2.2<(x.length:Int))) then ((idx x s2.2).bind fun y4=>(e y4 s2.1).bind fun y19=>bif (decide (y19<0)) then (some (.inr (.inr (-1)))) else (some (.inl (y19,i64.wrap (s2.2+1)))))
      else (some (.inr (.inl (s2.1,s2.2)))):Option ((Int×Int)⊕((Int×Int)⊕Int)))) N (i64.wrap (b - (x.length:Int)),0)).bind fun o22=>Sum.elim (fun o22=>some o22.1) (fun r25=>some r25) o22))=some (left b (iQ f x)):=by
  have hm:x.length≤9223372036854775807:=hx;have hBN:16777216≤N:=hN;rw [jg (by omega) (by omega)]
  by_cases h:(x.length:Int)≤b
  · rw [decide_eq_false (by omega),PC]
    have hk:=lK (N:=N) (body:=fun (s2:Int×Int)=>(bif (decide (s2.2<(x.length:Int))) then ((idx x s2.2).bind fun y4=>(e y4 s2.1).bind fun y19=>bif (decide (y19<0)) then (some (.inr (.inr (-1)))) else (some (.inl (y19,i64.wrap (s2.2+1)))))
      else (some (.inr (.inl (s2.1,s2.2)))):Option ((Int×Int)⊕((Int×Int)⊕Int)))) x (fun k (t:Int)=>(t,(k:Int))) (fun k t y=>if (f y:Int)≤t then .inl (t - f y) else .inr (.inr (-1))) (fun t=>.inl (t,(x.length:Int))) (fun k t=>0≤t∧t≤1048576) ?_ ?_ (t:=b - x.length) (by omega) ⟨by omega,by omega⟩
    · rw [show ((b - (x.length:Int),(0:Int)):Int×Int)=(fun (k:Nat) (t:Int)=>(t,(k:Int))) 0 (b - x.length) from rfl,hk,PB]
      have key:∀ (l:List α) (k:Nat) (t:Int),0≤t→Sum.elim (fun (o22:Int×Int)=>some o22.1) (fun r25=>some r25) (lg (ρ:=(Int×Int)⊕Int) (fun k t y=>if (f y:Int)≤t then .inl (t - f y) else .inr (.inr (-1))) (fun t=>.inl (t,(x.length:Int))) k t l)=some (left t (gW f l)):=by
        intro l
        induction l with
        | nil=>intro k t ht;simp [lg,left,gW,ht]
        | cons y l ih =>
          intro k t ht
          by_cases hy:(f y:Int)≤t
          · simp only [lg,if_pos hy];rw [ih _ _ (by omega)];have:=yB (b:=t) (n:=f y) (m:=gW f l) hy;rw [show left t (f y)=t - f y from if_pos hy] at this;simp only [gW];rw [this]
          · simp only [lg,if_neg hy];have:left t (f y+gW f l)=-1:=if_neg (by omega);simp only [gW];rw [this];rfl
      rw [key x 0 _ (by omega)];have:=yB (b:=b) (n:=x.length) (m:=gW f x) h;unfold iQ;rw [← this];unfold left;rw [if_pos h]
    · intro k t y hy hlt ⟨i1,i2⟩
      have hkB:k<gT:=show k<16777216 by omega
      simp only [iF hlt,PD,ik,hy,PB,he y (List.mem_of_getElem? hy) t i1 i2,iJ hkB,Ai i1]
      by_cases h2:(f y:Int)≤t
      · simp only [h2,decide_true,PE,PC,if_true,left];exact ⟨rfl,fun t' h=>by cases h;omega⟩
      · simp only [h2,decide_false,Bool.not_false,PD,if_false];exact ⟨rfl,fun t' h=>by cases h⟩
    · intro t _;simp only [iG,PC]
  · rw [decide_eq_true (by omega),PD];unfold left iQ;rw [if_neg (by omega)]
theorem guard {b:Int} {n:Nat} {e:Option Int} {k:Int→Option Bool} (h0:0≤b) (h1:b≤1048576) (he:e=some (left b n)) (hk:∀ b,0≤b→b≤1048576→n≤1048576→k b=some true) :
    e.bind (fun y=>bif (decide (y<0)) then some true else k y)=some true:=by
  rw [he,PB,Ai h0]
  by_cases h:(n:Int)≤b
  · have e1:left b n=b - n:=if_pos h;simp only [h,decide_true,PE,PC];rw [e1];exact hk _ (by omega) (by omega) (by omega)
  · simp only [h,decide_false,Bool.not_false,PD]
theorem small {n:Nat} (h:n≤1048576):n<gT:=Nat.lt_of_le_of_lt h (by decide)
theorem Nh {α:Type} [DecidableEq α] {ρ:Type} (x x':List α) (hl:x.length=x'.length) (r r':ρ) {body:Int→Option (Int⊕ρ)} {N:Nat} (hN:x.length<N)
    (hs:∀ (k:Nat) (y z:α),x[k]?=some y→x'[k]?=some z→k<x.length→body (k:Int)=some (if y=z then .inl ((k+1:Nat):Int) else .inr r')) (he:body (x.length:Int)=some (.inr r)):iter body N 0=some (if x=x' then r else r'):=by
  rw [jT x (fun k y=>decide (x'[k]?=some y)) r r' hN (fun k y hy hk=>?_) he]
  · congr 1
    have:(allI (fun k y=>decide (x'[k]?=some y)) 0 x=true) ↔ x=x':=by
      rw [l7];constructor
      · intro h;apply List.ext_getElem? fun i=>?_
        cases hi:x[i]? with
        | none=>rw [List.getElem?_eq_none_iff] at hi;rw [List.getElem?_eq_none (by omega)]
        | some y=>have:=h i y hi;simp at this;exact this.symm
      · rintro rfl i y hy;simp [hy]
    by_cases h:x=x'
    · rw [if_pos h,if_pos (this.2 h)]
    · rw [if_neg h,if_neg (fun q=>h (this.1 q))]
  · obtain ⟨z,hz⟩:∃ z,x'[k]?=some z:=⟨x'[k]'(by omega),List.getElem?_eq_getElem _⟩;rw [hs k y z hy hz hk,hz]
    by_cases h:y=z
    · simp [h]
    · simp [h,Ne.symm h]
theorem LX {α:Type} [DecidableEq α] (x x':List α) (e:α→α→Option Bool) (he:∀ y z,y ∈ x→z ∈ x'→e y z=some (decide (y=z))) (hb:x.length<gT) {N:Nat} (hN:gT≤N) :
    (bif ((x.length:Int) != (x'.length:Int)) then (some false) else ((iter (fun (s2:Int)=>(bif (decide (s2<(x.length:Int))) then ((idx x s2).bind fun y4=>(idx x' s2).bind fun y13=>(e y4 y13).bind fun y22 =>
      bif (!y22) then (some (.inr (.inr false))) else (some (.inl (i64.wrap (s2+1))))) else (some (.inr (.inl s2))):Option (Int⊕(Int⊕Bool)))) N 0).bind fun o25=>Sum.elim (fun o25=>some true) (fun r28=>some r28) o25))=some (decide (x=x')):=by
  by_cases hl:x.length=x'.length
  · have:((x.length:Int) != (x'.length:Int))=false:=by simp [hl]
    rw [this,PC,Nh x x' hl (.inl (x.length:Int)) (.inr false) (Nat.lt_of_lt_of_le hb hN)]
    · by_cases h:x=x'<;>simp [h]
    · intro k y z hy hz hk;simp only [iF hk,PD,ik,hy,hz,PB,he y z (List.mem_of_getElem? hy) (List.mem_of_getElem? hz),iJ (Nat.lt_trans hk hb)]
      by_cases h:y=z<;>simp [h]
    · simp only [iG,PC]
  · have:((x.length:Int) != (x'.length:Int))=true:=by simp;omega
    rw [this,PD];have:x ≠ x':=fun h=>hl (by rw [h]);simp [this]
theorem BV {α:Type} [DecidableEq α] (x x':List α) (e:α→α→Bool) (he:∀ y z,e y z=!decide (y=z)) (hb:x.length<gT) {N:Nat} (hN:gT≤N) :
    (bif ((x.length:Int) != (x'.length:Int)) then (some false) else ((iter (fun (s2:Int)=>(bif (decide (s2<(x.length:Int))) then ((idx x s2).bind fun y4=>(idx x' s2).bind fun y13 =>
      bif (e y4 y13) then (some (.inr (.inr false))) else (some (.inl (i64.wrap (s2+1))))) else (some (.inr (.inl s2))):Option (Int⊕(Int⊕Bool)))) N 0).bind fun o25=>Sum.elim (fun o25=>some true) (fun r28=>some r28) o25))=some (decide (x=x')):=by
  have:=LX x x' (fun y z=>some (!e y z)) (fun y z _ _=>by simp [he]) hb hN;simpa using this
def jV {α:Type} (g:α→Int→α) (c:α→Nat):Int→List α→List α
  | _,[]=>[]
  | n,y::l=>g y n::jV g c (n+c y) l
theorem kf {α:Type} (g:α→Int→α) (c:α→Nat):∀ (l:List α) (n:Int),(jV g c n l).length=l.length
  | [],_=>rfl
  | y::l,n=>by simp [jV,kf g c l]
theorem pK {α:Type} (x:List α) (n:Int) (g:α→Int→α) (c:α→Nat) {N:Nat} (hN:x.length<N) (h0:0≤n) (h1:n+gW c x≤4611686018427387904) {body:(List α)×Int×Int→Option (((List α)×Int×Int)⊕((List α)×Int×Int))}
    (hs:∀ (l:List α) (k:Nat) (m:Int) (y:α),l.length=x.length→k<x.length→l[k]?=some y→y ∈ x→0≤m→m+c y≤4611686018427387904→body (l,m,(k:Int))=some (.inl (l.set k (g y m),m+c y,((k+1:Nat):Int))))
    (he:∀ l m,l.length=x.length→body (l,m,(x.length:Int))=some (.inr (l,m,(x.length:Int)))):iter body N (x,n,0)=some (jV g c n x,n+gW c x,(x.length:Int)):=by
  have key:∀ (r:List α) (d:List α) (k:Nat) (m:Int) (M:Nat),(∀ y,y ∈ r→y ∈ x)→d.length=k→k+r.length=x.length→0≤m→m+gW c r≤4611686018427387904→r.length<M→iter body M (d++r,m,(k:Int))=some (d++jV g c m r,m+gW c r,(x.length:Int)):=by
    intro r
    induction r with
    | nil =>
      intro d k m M _ hd hk hm hc hM
      have hk:k=x.length:=by simpa using hk
      subst hk
      cases M with
      | zero=>simp at hM
      | succ M=>unfold iter;simp only [List.append_nil,he d m hd,PB,jV,gW];simp
    | cons y r ih =>
      intro d k m M hr hd hk hm hc hM
      cases M with
      | zero=>simp at hM
      | succ M =>
        simp only [gW,List.length_cons] at hc hk hM;unfold iter;rw [hs (d++y::r) k m y (by simp;omega) (by omega) (by rw [List.getElem?_append_right (by omega)];simp [hd]) (hr y (by simp)) hm (by omega)]
        have e:(d++y::r).set k (g y m)=(d++[g y m])++r:=by rw [List.set_append_right _ _ (by omega)];simp [hd]
        simp only [PB,e];rw [ih (d++[g y m]) (k+1) (m+c y) M (fun z hz=>hr z (by simp [hz])) (by simp [hd]) (by omega) (by omega) (by omega) (by omega)];simp [jV,gW];omega
  exact key x [] 0 n N (fun _ h=>h) rfl (by simp) h0 h1 hN
theorem tb {α:Type} (x:List α) (n:Int) (g:α→Int→α) (c:α→Nat) {N:Nat} (hN:x.length<N) (h0:0≤n) (h1:n+gW c x≤4611686018427387904) {body:Int×Int→Option ((Int×Int)⊕((Int×Int)⊕Int))}
    (hs:∀ (k:Nat) (m:Int) (y:α),k<x.length→(jV g c n x)[k]?=some (g y m)→y ∈ x→0≤m→m+c y≤4611686018427387904→body (m,(k:Int))=some (.inl (m+c y,((k+1:Nat):Int))))
    (he:∀ m,body (m,(x.length:Int))=some (.inr (.inl (m,(x.length:Int))))):iter body N (n,0)=some (.inl (n+gW c x,(x.length:Int))):=by
  have key:∀ (r:List α) (d:List α) (k:Nat) (m:Int) (M:Nat),(∀ y,y ∈ r→y ∈ x)→d.length=k→jV g c n x=d++jV g c m r→k+r.length=x.length→0≤m→m+gW c r≤4611686018427387904→r.length<M→iter body M (m,(k:Int))=some (.inl (m+gW c r,(x.length:Int))):=by
    intro r
    induction r with
    | nil =>
      intro d k m M _ hd hx hk hm hc hM
      have hk:k=x.length:=by simpa using hk
      subst hk
      cases M with
      | zero=>simp at hM
      | succ M=>unfold iter;simp only [he,PB,gW];simp
    | cons y r ih =>
      intro d k m M hr hd hx hk hm hc hM
      cases M with
      | zero=>simp at hM
      | succ M =>
        simp only [gW,List.length_cons] at hc hk hM;unfold iter;rw [hs k m y (by omega) (by rw [hx,List.getElem?_append_right (by omega)];simp [hd,jV]) (hr y (by simp)) hm (by omega)];simp only [PB];rw [ih (d++[g y m]) (k+1) (m+c y) M (fun z hz=>hr z (by simp [hz])) (by simp [hd]) (by rw [hx];simp [jV]) (by omega) (by omega) (by omega) (by omega)];simp [gW];omega
  exact key x [] 0 n N (fun _ h=>h) rfl (by simp) (by simp) h0 h1 hN
theorem iw {n:Int} (h1:-9223372036854775808≤n) (h2:n+1≤9223372036854775807):i64.wrap (n+1)=n+1:=jg (by omega) h2
theorem Gt {α:Type} {l:List α} {k:Nat} {y:α} (h:k<l.length):idx (l.set k y) (k:Int)=some y:=by rw [ik];simp [h]
theorem kc {α β:Type} {l m:List α} {k:Option β} (h:m.length=l.length):j5 l m k=k:=by simp [j5,h]
end Go.Kx
