import Derived.Test.YtfmfgnhbgcjajaaGreatDat
namespace Go.Kx
open Go
set_option linter.unusedVariables false
set_option linter.unusedSimpArgs false
theorem dB{n:Int}(h1:-9223372036854775808<=n)(h2:n<=9223372036854775807):IntKind.i64.wrap n=n:=by
  simp[IntKind.wrap,IntKind.signed,IntKind.bits];omega
theorem dM{α:Type}(l:List α)(k:Nat):idx l (k:Int)=l[k]?:=by simp[idx]
theorem Ho{σ ρ:Type}{body:σ->Option (σ⊕ρ)}(f:Nat->σ)(len:Nat){r:ρ}(hstep:∀k,k<len->body (f k)=some (.inl (f (k+1))))(hend:body (f len)=some (.inr r)):
    ∀(d:Nat) {N:Nat} {k:Nat},k+d=len->d<N->iter body N (f k)=some r
  | 0,N+1,k,hk,_=>by
    have:k=len:=by omega
    subst this;simp[iter,hend]
  | d+1,N+1,k,hk,hN=>by
    unfold iter;rw[hstep k (by omega)];exact Ho f len hstep hend d (by omega) (by omega)
theorem Cv{σ ρ:Type}{body:σ->Option (σ⊕ρ)}(f:Nat->σ)(len:Nat){r:ρ}{N:Nat}(hN:len<N)(hstep:∀k,k<len->body (f k)=some (.inl (f (k+1))))(hend:body (f len)=some (.inr r)):
    iter body N (f 0)=some r:=Ho f len hstep hend len (by omega) hN
section
variable {α:Type} [dp α]
end
def jL{α τ ρ:Type}(g:Nat->τ->α->τ⊕ρ)(fin:τ->ρ):Nat->τ->List α->ρ
  | _,t,[]=>fin t
  | k,t,y::l=>match g k t y with
    | .inl t'=>jL g fin (k+1) t' l
    | .inr r=>r
theorem ku{α σ τ ρ:Type}{body:σ->Option (σ⊕ρ)}(x:List α)(f:Nat->τ->σ)(g:Nat->τ->α->τ⊕ρ)(fin:τ->ρ)(I:Nat->τ->Prop)
    (hs:∀k t y,x[k]?=some y->k<x.length->I k t->body (f k t)=some ((g k t y).map (f (k+1)) id)/\∀t',g k t y=.inl t'->I (k+1) t')
    (he:∀t,I x.length t->body (f x.length t)=some (.inr (fin t))) {N:Nat} (hN:x.length<N) {t:τ} (h0:I 0 t):iter body N (f 0 t)=some (jL g fin 0 t x):=by
  have key:∀(l:List α) (k:Nat) (t:τ) (M:Nat),x.drop k=l->k<=x.length->I k t->l.length<M->iter body M (f k t)=some (jL g fin k t l):=by
    intro l
    induction l with
    | nil =>
      intro k t M hd hk hI hM
      have:k=x.length:=by
        have:=congrArg List.length hd;simp at this;omega
      subst this
      cases M with
      | zero=>simp at hM
      | succ M=>unfold iter;rw[he t hI];rfl
    | cons y l ih =>
      intro k t M hd hk hI hM
      have hlt:k<x.length:=by
        have:=congrArg List.length hd;simp at this;omega
      have hy:x[k]?=some y:=by
        have:=congrArg (·[0]?) hd;simpa using this
      obtain⟨h1,h2⟩:=hs k t y hy hlt hI
      cases M with
      | zero=>simp at hM
      | succ M =>
        unfold iter;rw[h1]
        cases hg:g k t y with
        | inl t' =>
          have e:x.drop (k+1)=l:=by rw[<- List.drop_drop,hd];rfl
          simp only[Sum.map_inl,RK,jL,hg];exact ih (k+1) t' M e hlt (h2 t' hg) (by simp at hM;omega)
        | inr r=>simp[jL,hg]
  exact key x 0 t N rfl (by omega) h0 hN
def allI{α:Type}(p:Nat->α->Bool):Nat->List α->Bool
  | _,[]=>true
  | k,y::l=>p k y&&allI p (k+1) l
theorem gZ{α:Type}(p:α->Bool):∀(l:List α) (k:Nat),allI (fun _ y=>p y) k l=l.all p
  | [],_=>rfl
  | y::l,k=>by simp[allI,gZ p l]
theorem iV{α:Type}{p:Nat->α->Bool}:∀{l:List α} {k:Nat},allI p k l=true <-> ∀(i:Nat) (y:α),l[i]?=some y->p (k+i) y=true
  | [],k=>by simp[allI]
  | y::l,k=>by
    simp only[allI,RP,iV (l:=l)];constructor
    · rintro⟨h1,h2⟩ i z hz
      cases i with
      | zero=>simp at hz;subst hz;simpa using h1
      | succ i=>have:=h2 i z (by simpa using hz);rwa[show k+(i+1)=k+1+i by omega]
    · intro h;refine⟨by simpa using h 0 y rfl,fun i z hz=>?_⟩;have:=h (i+1) z (by simpa using hz)
      rwa[show k+(i+1)=k+1+i by omega]at this
theorem Ec{α ρ:Type}(p:Nat->α->Bool)(r r':ρ):∀(l:List α) (k:Nat),jL (fun k (_:Unit) y=>if p k y then .inl ()else .inr r') (fun _=>r) k () l=if allI p k l then r else r'
  | [],k=>rfl
  | y::l,k=>by
    unfold jL allI;cases h:p k y
    · simp
    · simp[Ec p r r' l (k+1)]
theorem gp{α ρ:Type}{body:Int->Option (Int⊕ρ)}(x:List α)(p:Nat->α->Bool)(r r':ρ){N:Nat}(hN:x.length<N)
    (hs:∀(k:Nat) (y:α),x[k]?=some y->k<x.length->body (k:Int)=some (if p k y then .inl ((k+1:Nat):Int)else .inr r')) (he:body (x.length:Int)=some (.inr r)):iter body N 0=some (if allI p 0 x then r else r'):=by
  rw[show(0:Int)=(fun(k:Nat) (_:Unit)=>(k:Int)) 0 () from rfl,ku x (fun k (_:Unit)=>(k:Int)) (fun k _ y=>if p k y then .inl ()else .inr r') (fun _=>r) (fun _ _=>True) ?_ (fun _ _=>he) hN trivial,Ec];intro k _ y hy hk _;refine⟨?_,fun _ _=>trivial⟩;rw[hs k y hy hk];cases p k y<;>rfl
def foldI{α τ:Type}(g:Nat->τ->α->τ):Nat->τ->List α->τ
  | _,t,[]=>t
  | k,t,y::l=>foldI g (k+1) (g k t y) l
theorem i9{α τ:Type}(g:τ->α->τ):∀(l:List α) (k:Nat) (t:τ),foldI (fun _=>g) k t l=l.foldl g t
  | [],_,_=>rfl
  | y::l,k,t=>i9 g l (k+1) (g t y)
theorem Cd{α τ ρ:Type}(g:Nat->τ->α->τ)(fin:τ->ρ):∀(l:List α) (k:Nat) (t:τ),jL (fun k t y=>.inl (g k t y)) fin k t l=fin (foldI g k t l)
  | [],_,_=>rfl
  | y::l,k,t=>Cd g fin l (k+1) (g k t y)
theorem gz{α σ τ ρ:Type}{body:σ->Option (σ⊕ρ)}(x:List α)(f:Nat->τ->σ)(g:Nat->τ->α->τ)(fin:τ->ρ)(I:Nat->τ->Prop)
    (hs:∀k t y,x[k]?=some y->k<x.length->I k t->body (f k t)=some (.inl (f (k+1) (g k t y)))/\I (k+1) (g k t y))
    (he:∀t,I x.length t->body (f x.length t)=some (.inr (fin t))) {N:Nat} (hN:x.length<N) {t:τ} (h0:I 0 t):iter body N (f 0 t)=some (fin (foldI g 0 t x)):=by
  rw[ku x f (fun k t y=>.inl (g k t y)) fin I (fun k t y hy hk hI=>?_) he hN h0,Cd];obtain⟨h1,h2⟩:=hs k t y hy hk hI;exact⟨h1,fun t' h=>by cases h;exact h2⟩
def jo{α β:Type}(p:Nat->α->Bool)(h:Nat->α->β):Nat->List α->List β
  | _,[]=>[]
  | k,y::l=>if p k y then h k y::jo p h (k+1) l else jo p h (k+1) l
theorem um{α β:Type}(p:Nat->α->Bool)(h:Nat->α->β):∀(l:List α) (k:Nat),(jo p h k l).length<=l.length
  | [],_=>Nat.le_refl _
  | y::l,k=>by
    unfold jo;have:=um p h l (k+1);split<;>simp<;>omega
theorem kY{α:Type}(p:α->Bool):∀(l:List α) (k:Nat),jo (fun _ y=>p y) (fun _ y=>y) k l=l.filter p
  | [],_=>rfl
  | y::l,k=>by
    unfold jo;rw[kY p l,List.filter_cons]
theorem Bw{α β:Type}(p:Nat->α->Bool)(h:Nat->α->β):∀(l:List α) (k:Nat) (acc:List β),foldI (fun k (acc:List β) y=>if p k y then acc++[h k y]else acc) k acc l=acc++jo p h k l
  | [],_,acc=>by simp[foldI,jo]
  | y::l,k,acc=>by
    unfold foldI jo;rw[Bw p h l];cases p k y<;>simp
theorem fZ{α:Type}{t:List α}{z:α}{k:Nat}(h:t.length<=k)(hk:k+1<df):app t [z]=some (t++[z]):=by
  unfold app;rw[if_pos (by simp;omega)]
theorem jq{α β:Type}{body:List β×Int->Option ((List β×Int)⊕(List β×Int))}(x:List α)(p:Nat->α->Bool)(h:Nat->α->β)(hb:x.length<df){N:Nat}(hN:df<=N)
    (hs:∀(k:Nat) (t:List β) (y:α),x[k]?=some y->k<x.length->t.length<=k->body (t,(k:Int))=some (.inl (if p k y then t++[h k y]else t,((k+1:Nat):Int))))
    (he:∀t,body (t,(x.length:Int))=some (.inr (t,(x.length:Int)))):iter body N ([],0)=some (jo p h 0 x,(x.length:Int)):=by
  rw[show(([]:List β),(0:Int))=(fun(k:Nat) (t:List β)=>(t,(k:Int))) 0 [] from rfl,
    gz x (fun(k:Nat) (t:List β)=>(t,(k:Int))) (fun k acc y=>if p k y then acc++[h k y]else acc) (fun t=>(t,(x.length:Int))) (fun k t=>t.length<=k) (fun k t y hy hk hI=>?_) (fun t _=>he t) (Nat.lt_of_lt_of_le hb hN) (by simp),Bw]
  · simp
  · refine⟨hs k t y hy hk hI,?_⟩;cases p k y<;>simp<;>omega
theorem ei{k n:Nat}(h:k<n):decide ((k:Int)<(n:Int))=true:=by simpa using h
theorem ep(n:Nat):decide ((n:Int)<(n:Int))=false:=by simp
theorem eB{k:Nat}(h:k<df):IntKind.i64.wrap ((k:Int)+1)=((k+1:Nat):Int):=by
  have:k<16777216:=h;rw[dB (by omega) (by omega)];omega
def lI{α:Type}(f:α->Nat):List α->Nat
  | []=>0
  | x::l=>f x+lI f l
def eE{α:Type}(f:α->Nat)(l:List α):Nat:=l.length+lI f l
theorem EO{α:Type}{f:α->Nat}{y:α}:∀{l:List α},y∈l->f y<=lI f l
  | z::l,h=>by
    rcases List.mem_cons.1 h with rfl|h
    · exact Nat.le_add_right _ _
    · exact Nat.le_trans (EO h) (Nat.le_add_left _ _)
theorem fq{α:Type}{f:α->Nat}{y:α}{l:List α}{B:Nat}(hb:eE f l<B)(h:y∈l):f y<B:=Nat.lt_of_le_of_lt (Nat.le_trans (EO h) (Nat.le_add_left _ _)) hb
theorem gj{α:Type}{f:α->Nat}{l:List α}{B:Nat}(hb:eE f l<B):l.length<B:=Nat.lt_of_le_of_lt (Nat.le_add_right _ _) hb
def left(b:Int)(n:Nat):Int:=if(n:Int)<=b then b-n else -1
theorem LK{b:Int}{n:Nat}(hb:0<=b):decide (left b n<0)=!decide ((n:Int)<=b):=by
  unfold left
  by_cases h:(n:Int)<=b
  · rw[if_pos h];simp[h]
  · rw[if_neg h];simp[h]
theorem guard{b:Int}{n:Nat}{e:Option Int}{k:Int->Option Bool}(h0:0<=b)(h1:b<=1048576)(he:e=some (left b n))(hk:∀b,0<=b->b<=1048576->n<=1048576->k b=some true):
    e.bind (fun y=>bif(decide (y<0))then some true else k y)=some true:=by
  rw[he,RK,LK h0]
  by_cases h:(n:Int)<=b
  · have e1:left b n=b-n:=if_pos h;simp only[h,decide_true,RN,RL];rw[e1];exact hk _ (by omega) (by omega) (by omega)
  · simp only[h,decide_false,Bool.not_false,RM]
theorem small{n:Nat}(h:n<=1048576):n<df:=Nat.lt_of_le_of_lt h (by decide)
theorem wV{α:Type}[DecidableEq α]{ρ:Type}(x x':List α)(hl:x.length=x'.length)(r r':ρ){body:Int->Option (Int⊕ρ)}{N:Nat}(hN:x.length<N)
    (hs:∀(k:Nat) (y z:α),x[k]?=some y->x'[k]?=some z->k<x.length->body (k:Int)=some (if y=z then .inl ((k+1:Nat):Int)else .inr r')) (he:body (x.length:Int)=some (.inr r)):iter body N 0=some (if x=x' then r else r'):=by
  rw[gp x (fun k y=>decide (x'[k]?=some y)) r r' hN (fun k y hy hk=>?_) he]
  · congr 1
    have:(allI (fun k y=>decide (x'[k]?=some y)) 0 x=true) <-> x=x':=by
      rw[iV];constructor
      · intro h;apply List.ext_getElem? fun i=>?_
        cases hi:x[i]? with
        | none=>rw[List.getElem?_eq_none_iff]at hi;rw[List.getElem?_eq_none (by omega)]
        | some y=>have:=h i y hi;simp at this;exact this.symm
      · rintro rfl i y hy;simp[hy]
    by_cases h:x=x'
    · rw[if_pos h,if_pos (this.2 h)]
    · rw[if_neg h,if_neg (fun q=>h (this.1 q))]
  · obtain⟨z,hz⟩:∃z,x'[k]?=some z:=⟨x'[k]'(by omega),List.getElem?_eq_getElem _⟩;rw[hs k y z hy hz hk,hz]
    by_cases h:y=z
    · simp[h]
    · simp[h,Ne.symm h]
theorem Hu{α:Type}[DecidableEq α](x x':List α)(e:α->α->Option Bool)(he:∀y z,y∈x->z∈x'->e y z=some (decide (y=z)))(hb:x.length<df){N:Nat}(hN:df<=N):
    (bif((x.length:Int) != (x'.length:Int))then(some false)else((iter (fun(s2:Int)=>(bif(decide (s2<(x.length:Int)))then((idx x s2).bind fun y4=>(idx x' s2).bind fun y13=>(e y4 y13).bind fun y22 =>
      bif(!y22)then(some (.inr (.inr false)))else(some (.inl (IntKind.i64.wrap (s2+1)))))else(some (.inr (.inl s2))):Option (Int⊕(Int⊕Bool)))) N 0).bind fun o25=>Sum.elim (fun o25=>some true) (fun r28=>some r28) o25))=some (decide (x=x')):=by
  by_cases hl:x.length=x'.length
  · have:((x.length:Int) != (x'.length:Int))=false:=by simp[hl]
    rw[this,RL,wV x x' hl (.inl (x.length:Int)) (.inr false) (Nat.lt_of_lt_of_le hb hN)]
    · by_cases h:x=x'<;>simp[h]
    · intro k y z hy hz hk;simp only[ei hk,RM,dM,hy,hz,RK,he y z (List.mem_of_getElem? hy) (List.mem_of_getElem? hz),eB (Nat.lt_trans hk hb)]
      by_cases h:y=z<;>simp[h]
    · simp only[ep,RL]
  · have:((x.length:Int) != (x'.length:Int))=true:=by simp;omega
    rw[this,RM];have:x ≠ x':=fun h=>hl (by rw[h]);simp[this]
theorem HI(y z:Int):(y != z)=!decide (y=z):=by by_cases h:y=z<;>simp[h]
theorem xd{α:Type}[DecidableEq α](x x':List α)(e:α->α->Bool)(he:∀y z,e y z=!decide (y=z))(hb:x.length<df){N:Nat}(hN:df<=N):
    (bif((x.length:Int) != (x'.length:Int))then(some false)else((iter (fun(s2:Int)=>(bif(decide (s2<(x.length:Int)))then((idx x s2).bind fun y4=>(idx x' s2).bind fun y13 =>
      bif(e y4 y13)then(some (.inr (.inr false)))else(some (.inl (IntKind.i64.wrap (s2+1)))))else(some (.inr (.inl s2))):Option (Int⊕(Int⊕Bool)))) N 0).bind fun o25=>Sum.elim (fun o25=>some true) (fun r28=>some r28) o25))=some (decide (x=x')):=by
  have:=Hu x x' (fun y z=>some (!e y z)) (fun y z _ _=>by simp[he]) hb hN;simpa using this
theorem H8{α:Type}{l:List α}{k:Nat}{y:α}(h:k<l.length):idx (l.set k y) (k:Int)=some y:=by rw[dM];simp[h]
theorem qM{α β:Type}{l m:List α}{k:Option β}(h:m.length=l.length):kA l m k=k:=by simp[kA,h]
end Go.Kx
