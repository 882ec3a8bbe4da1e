import Derived.Test.YtfmfgnhbgcjajaaGreatLSame
namespace Go.Kx
open Go
open Go.IntKind (i64)
set_option linter.unusedVariables false
set_option linter.unusedSimpArgs false
set_option maxRecDepth 10000
theorem DU{σ ρ:Type}{body:σ->Option (σ⊕ρ)}(μ:σ->Nat)(I:σ->Prop)(Q:ρ->Prop)(h:∀s,I s->(∃s',body s=some (.inl s')/\I s'/\μ s'<μ s)\/∃r,body s=some (.inr r)/\Q r):∀(N:Nat) (s:σ),I s->μ s<N->∃r,iter body N s=some r/\Q r
  | 0,s,_,hN=>by omega
  | N+1,s,hI,hN=>by
    unfold iter
    rcases h s hI with⟨s',h1,h2,h3⟩|⟨r,h1,h2⟩
    · rw[h1];exact DU μ I Q h N s' h2 (by omega)
    · rw[h1];exact⟨r,rfl,h2⟩
theorem uh{α β:Type}{p:Nat->α->Bool}{h:Nat->α->β}{z:β}:∀{l:List α} {k:Nat},z∈jo p h k l <-> ∃(i:Nat) (y:α),l[i]?=some y/\p (k+i) y=true/\z=h (k+i) y
  | [],k=>by simp[jo]
  | y::l,k=>by
    have ih:=uh (p:=p) (h:=h) (z:=z) (l:=l) (k:=k+1)
    have key:(∃(i:Nat) (x:α),(y::l)[i]?=some x/\p (k+i) x=true/\z=h (k+i) x) <-> (p k y=true/\z=h k y)\/z∈jo p h (k+1) l:=by
      rw[ih];constructor
      · rintro⟨i,x,h1,h2,h3⟩
        cases i with
        | zero=>simp at h1;subst h1;exact .inl ⟨h2,h3⟩
        | succ i=>exact .inr ⟨i,x,by simpa using h1,by rwa[show k+1+i=k+(i+1) by omega],by rwa[show k+1+i=k+(i+1) by omega]⟩
      · rintro(⟨h2,h3⟩|⟨i,x,h1,h2,h3⟩)
        · exact⟨0,y,rfl,h2,h3⟩
        · exact⟨i+1,x,by simpa using h1,by rwa[show k+(i+1)=k+1+i by omega],by rwa[show k+(i+1)=k+1+i by omega]⟩
    rw[key,show jo p h k (y::l)=if p k y then h k y::jo p h (k+1) l else jo p h (k+1) l from rfl];cases hp:p k y<;>simp
structure Ar (l:List c6):Prop where
  len:l.length=10
  sV:(nth l 0).Rq=1
  yT:(nth l 0).box=-1
  Av:(nth l 0).dY=1000000
  ok:∀o,o∈l->eG o=true
  dk:∀o,o∈l->∀y,y∈o.dk->0<=y->(nth l y).Rq ≠ 0
  box:∀(k:Nat) (o:c6),l[k]?=some o->0<k->o.Rq ≠ 0->0<=o.box->(nth l o.box).Rq ≠ 0
theorem IM{l:List c6}{k:Nat}{o:c6}:sW l k o=true <-> eG o=true/\(0<k->o.Rq ≠ 0->0<=o.box->(nth l o.box).Rq ≠ 0)/\∀y,y∈o.dk->0<=y->(nth l y).Rq ≠ 0:=by
  unfold sW vJ uv;simp only[RP,List.all_eq_true,Bool.not_eq_true',Bool.and_eq_false_iff,decide_eq_false_iff_not,bne_eq_false_iff_eq,beq_eq_false_iff_ne,ne_eq];constructor
  · rintro⟨⟨h1,h2⟩,h3⟩;refine⟨h1,fun a b c=>?_,fun y hy h0=>?_⟩
    · rcases h2 with q|q|q|q
      · omega
      · exact absurd q b
      · omega
      · exact q
    · rcases h3 y hy with q|q
      · omega
      · exact q
  · rintro⟨h1,h2,h3⟩;refine⟨⟨h1,?_⟩,fun y hy=>?_⟩
    · by_cases a:0<k
      · by_cases b:o.Rq=0
        · exact .inr (.inl b)
        · by_cases c:0<=o.box
          · exact .inr (.inr (.inr (h2 a b c)))
          · exact .inr (.inr (.inl (by omega)))
      · exact .inl (by omega)
    · by_cases c:0<=y
      · exact .inr (h3 y hy c)
      · exact .inl (by omega)
theorem fF{l:List c6}:gh l=true <-> Ar l:=by
  unfold gh vf;simp only[RP,Bool.not_eq_true',bne_eq_false_iff_eq,Bool.or_eq_false_iff,iV,Nat.zero_add,IM];constructor
  · rintro⟨h1,⟨h2,h3,h4⟩,h5⟩;have hm:∀o,o∈l->∃k:Nat,l[k]?=some o:=fun o ho=>List.getElem?_of_mem ho;refine⟨by omega,h2,h3,h4,fun o ho=>?_,fun o ho=>?_,fun k o hk=>?_⟩
    · obtain⟨k,hk⟩:=hm o ho;exact(h5 k o hk).1
    · obtain⟨k,hk⟩:=hm o ho;exact(h5 k o hk).2.2
    · exact(h5 k o hk).2.1
  · intro h;refine⟨by have:=h.len;omega,⟨h.sV,h.yT,h.Av⟩,fun i y hy=>⟨h.ok y (List.mem_of_getElem? hy),h.box i y hy,h.dk y (List.mem_of_getElem? hy)⟩⟩
theorem Ar.at{l:List c6}(h:Ar l){i:Int}(h0:0<=i)(h9:i<=9):idx l i=some (nth l i)/\nth l i∈l:=⟨eK h0 (by have:=h.len;omega),gg h0 (by have:=h.len;omega)⟩
theorem Ar.wH{l:List c6}(h:Ar l):l.length<df:=by rw[h.len];decide
def eZ(o:c6)(now:Int):Bool:=bif o.Rq==0 then true else decide (o.dY<now)
theorem wy(N:Nat)(o:c6)(now:Int):kU N o now=some (eZ o now):=oc _ _ _
theorem uy(N:Nat)(o:c6)(now:Int):j7 N o now=some (eZ o now):=oc _ _ _
def Ac(l:List c6)(i:Int)(k:Nat)(y:c6):Bool:=(decide ((k:Int)>0)&&(y.Rq != 0&&((y.box==i)&&((nth l i).Rq==1)))) || (nth l i).dk.contains (k:Int)
def j5(l:List c6)(i:Int):List Int:=jo (Ac l i) (fun k _=>(k:Int)) 0 l
theorem KN{o:c6}(h:eG o=true):o.dk.length<df:=Nat.lt_of_le_of_lt (o6 h).1 (by decide)
theorem wC{l:List c6}{i k:Int}(h:k∈j5 l i):0<=k/\k<(l.length:Int):=by
  obtain⟨j,y,h1,_,h3⟩:=uh.1 h;have:=eF h1;have h3:k=((0+j:Nat):Int):=h3;omega
theorem Lz(l:List c6)(i:Int):(j5 l i).length<=l.length:=um _ _ _ _
theorem C7{N:Nat}(hN:df<=N){l:List c6}(h:Ar l){i:Int}(h0:0<=i)(h9:i<=9):nh N l i=some (j5 l i):=by
  obtain⟨q1,q2⟩:=h.at h0 h9;have hB:=h.wH;unfold nh j5;rw[jq l (Ac l i) (fun k _=>(k:Int)) hB hN]
  · rfl
  · intro k t y hy hk ht;simp only[ei hk,RM,dM,hy,RK,q1,sR hN (KN (h.ok _ q2)),iB,gv,eB (Nat.lt_trans hk hB),fZ ht (Nat.lt_of_le_of_lt hk hB)]
    show(bif Ac l i k y then _ else _)=_
    cases Ac l i k y<;>rfl
  · intro t;simp only[ep,RL]
theorem IX{l:List c6}(h:Ar l){i:Int}(h0:0<=i)(h9:i<=9)(hk:(nth l i).Rq=0):j5 l i=[]:=by
  obtain⟨_,q2⟩:=h.at h0 h9
  have hl:(nth l i).dk=[]:=by
    have:=h.ok _ q2;unfold eG at this;simp only[hk,beq_self_eq_true,RM,RP,decide_eq_true_eq]at this;rw[this.2.2];rfl
  rw[List.eq_nil_iff_forall_not_mem];intro k hm;obtain⟨j,y,_,h2,_⟩:=uh.1 hm;simp[Ac,hk,hl]at h2
theorem HN{N:Nat}(hN:df<=N){l:List c6}(hb:eE dw l<df)(hw:wA l)(h:Ar l){i:Int}(h0:0<=i)(h9:i<=9):pS N l i=some (j5 l i):=by
  obtain⟨q1,q2⟩:=h.at h0 h9;have hB:=h.wH
  have hi:dv i 0 9=true:=by rw[dI];omega
  unfold pS;simp only[pF hN hb hw,fF.2 h,qe,hi,q1,RK,RN,RL];cases hk:(nth l i).Rq==0
  · simp only[RL];unfold j5;rw[jq l (Ac l i) (fun k _=>(k:Int)) hB hN]
    · rfl
    · intro k t y hy hk ht;simp only[ei hk,RM,dM,hy,RK,wU hN (KN (h.ok _ q2)),iB,gv,eB (Nat.lt_trans hk hB),fZ ht (Nat.lt_of_le_of_lt hk hB)];unfold Ac;cases decide ((k:Int)>0)
      · cases(nth l i).dk.contains (k:Int)<;>rfl
      cases y.Rq != 0
      · cases(nth l i).dk.contains (k:Int)<;>rfl
      cases y.box==i
      · cases(nth l i).dk.contains (k:Int)<;>rfl
      · cases((nth l i).Rq==1)<;>cases(nth l i).dk.contains (k:Int)<;>rfl
    · intro t;simp only[ep,RL]
  · rw[IX h h0 h9 (by simpa using hk)];rfl
inductive Reaches (l:List c6) (now:Int):Int->Prop
  | root:Reaches l now 0
  | step {i k:Int}:Reaches l now i->k∈j5 l i->eZ (nth l k) now=false->Reaches l now k
theorem Reaches.zy{l:List c6}{now:Int}(h:Ar l){k:Int}(hr:Reaches l now k):0<=k/\k<=9:=by
  cases hr with
  | root=>omega
  | step _ h2 _=>have:=wC h2;have:=h.len;omega
def sv:List Bool->Nat
  | []=>0
  | b::r=>(if b then 0 else 1)+sv r
theorem HY:∀{r:List Bool} {k:Nat},r[k]?=some false->sv (r.set k true)+1=sv r
  | b::r,0,h=>by simp at h;subst h;simp[sv];omega
  | b::r,k+1,h=>by
    have:=HY (r:=r) (k:=k) (by simpa using h);simp only[List.set_cons_succ,sv];omega
def yd(r q:List Bool):Prop:=∀k:Nat,r[k]?=some true->q[k]?=some true
theorem FE:∀{r q:List Bool},r.length=q.length->yd r q->sv r<=sv q->r=q
  | [],[],_,_,_=>rfl
  | b::r,c::q,hl,h,hc=>by
    have hl':r.length=q.length:=by simpa using hl
    have h':yd r q:=fun k hk=>by simpa using h (k+1) (by simpa using hk)
    have key:∀{r q:List Bool},r.length=q.length->yd r q->sv q<=sv r:=by
      intro r
      induction r with
      | nil=>intro q hl _;cases q with
        | nil=>exact Nat.le_refl _
        | cons=>simp at hl
      | cons b r ih =>
        intro q hl h
        cases q with
        | nil=>simp at hl
        | cons c q =>
          have:=ih (q:=q) (by simpa using hl) (fun k hk=>by simpa using h (k+1) (by simpa using hk));have h0:=h 0;simp at h0;simp only[sv];cases b<;>cases c<;>simp_all<;>omega
    have h0:=h 0;simp at h0;have:=key hl' h';simp only[sv]at hc;cases b<;>cases c
    · exact congrArg _ (FE hl' h' (by simpa using hc))
    · exfalso;simp at hc;omega
    · simp at h0
    · exact congrArg _ (FE hl' h' (by simpa using hc))
theorem HB{r:List Bool}{k:Nat}:yd r (r.set k true):=fun j hj=>by
  rw[List.getElem?_set];split
  · rename_i e;subst e;rw[if_pos (eF hj)]
  · exact hj
theorem setAt{r:List Bool}{k j:Nat}(h:(r.set k true)[j]?=some true):j=k\/r[j]?=some true:=by
  rw[List.getElem?_set]at h;split at h
  · exact .inl (by omega)
  · exact .inr h
def wi(l:List c6)(now:Int)(r:List Bool)(y:Int):List Bool:=if eZ (nth l y) now then r else r.set y.toNat true
def visit(l:List c6)(now:Int)(k:Nat)(r:List Bool)(o:c6):List Bool:=if !(nth r (k:Int)) || (eZ o now&&decide ((k:Int)>0))then r else(j5 l (k:Int)).foldl (wi l now) r
def tW(l:List c6)(now:Int)(r:List Bool):List Bool:=foldI (visit l now) 0 r l
def pM(l:List c6)(now:Int):Nat->List Bool->List Bool
  | 0,r=>r
  | n+1,r=>pM l now n (tW l now r)
def reach(l:List c6)(now:Int):List Bool:=if gh l then pM l now 10 ((List.replicate 10 false).set 0 true)else[]
theorem Ca(l:List c6)(now:Int)(r:List Bool)(y:Int):(wi l now r y).length=r.length:=by unfold wi;split<;>simp
theorem Ee(l:List c6)(now:Int):∀(e:List Int) (r:List Bool),(e.foldl (wi l now) r).length=r.length
  | [],r=>rfl
  | y::e,r=>by rw[List.foldl_cons,Ee l now e,Ca]
theorem v7(l:List c6)(now:Int)(k:Nat)(r:List Bool)(o:c6):(visit l now k r o).length=r.length:=by
  unfold visit;split
  · rfl
  · exact Ee _ _ _ _
theorem O6(l:List c6)(now:Int)(r:List Bool)(y:Int):yd r (wi l now r y):=by
  unfold wi;split
  · exact fun _ h=>h
  · exact HB
theorem BQ(l:List c6)(now:Int):∀(e:List Int) (r:List Bool),yd r (e.foldl (wi l now) r)
  | [],r=>fun _ h=>h
  | y::e,r=>fun k hk=>BQ l now e _ k (O6 l now r y k hk)
theorem Em(l:List c6)(now:Int)(k:Nat)(r:List Bool)(o:c6):yd r (visit l now k r o):=by
  unfold visit;split
  · exact fun _ h=>h
  · exact BQ _ _ _ _
theorem Ea(l:List c6)(now:Int):∀(e:List Int) (r:List Bool),(∀y,y∈e->y.toNat<r.length)->∀y,y∈e->eZ (nth l y) now=false->(e.foldl (wi l now) r)[y.toNat]?=some true
  | z::e,r,hr,y,hy,hx=>by
    rw[List.foldl_cons]
    rcases List.mem_cons.1 hy with rfl|hy
    · refine BQ l now e _ _ ?_;unfold wi;rw[if_neg (by simp[hx]),List.getElem?_set_self (hr y (by simp))]
    · exact Ea l now e _ (fun x h=>by rw[Ca];exact hr x (by simp[h])) y hy hx
def uU(l:List c6)(now:Int)(r:List Bool):Prop:=∀k:Nat,r[k]?=some true->Reaches l now (k:Int)
theorem FI{l:List c6}{now i:Int}(hi:Reaches l now i):∀(e:List Int) (r:List Bool),(∀y,y∈e->y∈j5 l i)->uU l now r->uU l now (e.foldl (wi l now) r)
  | [],r,_,h=>h
  | y::e,r,he,h=>by
    rw[List.foldl_cons];refine FI hi e _ (fun x hx=>he x (by simp[hx])) ?_;unfold wi;split
    · exact h
    · rename_i hx;intro k hk
      rcases setAt hk with q|q
      · have hy:=he y (by simp);have:=wC hy
        have e:(k:Int)=y:=by omega
        rw[e];exact .step hi hy (by simpa using hx)
      · exact h k q
theorem Ah{r:List Bool}{k:Nat}:nth r (k:Int)=true <-> r[k]?=some true:=by
  unfold nth;rw[Int.toNat_natCast]
  cases h:r[k]? with
  | none=>simp;try rfl
  | some b=>simp
theorem xT{l:List c6}{now:Int}{k:Nat}{r:List Bool}{o:c6}(h:uU l now r):uU l now (visit l now k r o):=by
  unfold visit;split
  · exact h
  · rename_i hc;simp only[Bool.or_eq_true,Bool.not_eq_true',not_or,Bool.not_eq_false]at hc;exact FI (h k (Ah.1 hc.1)) _ _ (fun _ hy=>hy) h
theorem wM{l:List c6}{now:Int}:∀(m:List c6) (k:Nat) (r:List Bool),uU l now r->(foldI (visit l now) k r m).length=r.length/\yd r (foldI (visit l now) k r m)/\uU l now (foldI (visit l now) k r m)
  | [],k,r,h=>⟨rfl,fun _ h=>h,h⟩
  | o::m,k,r,h=>by
    obtain⟨h1,h2,h3⟩:=wM m (k+1) (visit l now k r o) (xT h);exact⟨by unfold foldI;rw[h1,v7],fun j hj=>h2 j (Em l now k r o j hj),h3⟩
def ya(l:List c6)(now:Int)(r q:List Bool):Prop:=∀i:Nat,r[i]?=some true->∀y,y∈j5 l (i:Int)->eZ (nth l y) now=false->q[y.toNat]?=some true
theorem Bp{l:List c6}{now:Int}(h:Ar l){k:Int}(hr:Reaches l now k)(hk:k ≠ 0):eZ (nth l k) now=false:=by
  cases hr with
  | root=>exact absurd rfl hk
  | step _ _ h3=>exact h3
theorem C3{l:List c6}{now:Int}(h:Ar l):∀(m:List c6) (k:Nat) (r q:List Bool),(∀j:Nat,m[j]?=l[k+j]?)->r.length=10->uU l now r->yd q r->∀i:Nat,k<=i->q[i]?=some true->∀y,y∈j5 l (i:Int)->eZ (nth l y) now=false->(foldI (visit l now) k r m)[y.toNat]?=some true
  | [],k,r,q,hm,hr,hs,hq,i,hi,hqi,y,hy,hx=>by
    have:=(hs i (hq i hqi)).zy h;have h2:=hm (i-k);rw[show k+(i-k)=i by omega]at h2;have:=h.len;rw[List.getElem?_eq_getElem (show i<l.length by omega)]at h2;simp at h2
  | o::m,k,r,q,hm,hr,hs,hq,i,hi,hqi,y,hy,hx=>by
    have ho:l[k]?=some o:=by have:=hm 0;simpa using this.symm
    unfold foldI
    rcases Nat.eq_or_lt_of_le hi with e|hlt
    · subst e;refine(wM m (k+1) _ (xT hs)).2.1 _ ?_;have hk:nth r (k:Int)=true:=Ah.2 (hq k hqi)
      have hn:(eZ o now&&decide ((k:Int)>0))=false:=by
        by_cases h0:k=0
        · subst h0;simp
        · have:=Bp h (hs k (hq k hqi)) (by omega);rw[rn ho]at this;simp[this]
      unfold visit;rw[if_neg (by rw[hk,hn];decide)];exact Ea l now _ r (fun z hz=>by have:=wC hz;have:=h.len;omega) y hy hx
    · exact C3 h m (k+1) (visit l now k r o) q (fun j=>by have:=hm (j+1);rw[show k+1+j=k+(j+1) by omega, <- this];rfl) (by rw[v7,hr]) (xT hs) (fun j hj=>Em l now k r o j (hq j hj)) i hlt hqi y hy hx
theorem yF{l:List c6}{now:Int}(h:Ar l):∀(n:Nat) (r:List Bool),r.length=10->uU l now r->(pM l now n r).length=10/\yd r (pM l now n r)/\uU l now (pM l now n r)/\(sv r<n->ya l now (pM l now n r) (pM l now n r))
  | 0,r,hr,hs=>⟨hr,fun _ h=>h,hs,fun h=>by omega⟩
  | n+1,r,hr,hs=>by
    obtain⟨p1,p2,p3⟩:=wM (l:=l) (now:=now) l 0 r hs;have p4:=fun i hi=>C3 h l 0 r r (fun j=>by rw[Nat.zero_add]) hr hs (fun _ h=>h) i (Nat.zero_le _) hi;obtain⟨q1,q2,q3,q4⟩:=yF h n (tW l now r) (by unfold tW;rw[p1,hr]) p3;refine⟨q1,fun k hk=>q2 k (p2 k hk),q3,fun hc=>?_⟩
    by_cases hcl:sv (tW l now r)<n
    · exact q4 hcl
    · have e:r=tW l now r:=FE p1.symm p2 (by omega)
      have fix:∀m,pM l now m r=r:=by
        intro m
        induction m with
        | zero=>rfl
        | succ m ih=>unfold pM;rw[<- e,ih]
      rw[fix (n+1)];intro i hi y hy hx;have:=p4 i hi y hy hx
      rwa[show foldI (visit l now) 0 r l=r from e.symm]at this
def Ng(l:List c6)(now:Int)(r:List Bool):Prop:=r.length=10/\∀k:Nat,r[k]?=some true <-> Reaches l now (k:Int)
theorem Lk{l:List c6}{now:Int}(h:Ar l){r:List Bool}(hl:r.length=10)(hs:uU l now r)(h0:r[0]?=some true)(hc:ya l now r r):Ng l now r:=by
  refine⟨hl,fun k=>⟨hs k,fun hr=>?_⟩⟩
  have key:∀j:Int,Reaches l now j->r[j.toNat]?=some true:=by
    intro j hj
    induction hj with
    | root=>exact h0
    | step h1 h2 h3 ih =>
      rename_i i k;have:=(Reaches.zy h h1);refine hc i.toNat ih k ?_ h3
      rwa[show((i.toNat:Nat):Int)=i by omega]
  simpa using key k hr
theorem O9{l:List c6}{now:Int}{r q:List Bool}(h1:Ng l now r)(h2:Ng l now q):r=q:=by
  apply List.ext_getElem? fun k=>?_
  rcases Nat.lt_or_ge k 10 with hk|hk
  · have e:r[k]?=some true <-> q[k]?=some true:=(h1.2 k).trans (h2.2 k).symm;rw[List.getElem?_eq_getElem (by rw[h1.1];exact hk),List.getElem?_eq_getElem (by rw[h2.1];exact hk)]at e⊢;generalize r[k]'(by rw[h1.1];exact hk)=a at *;generalize q[k]'(by rw[h2.1];exact hk)=b at *;cases a<;>cases b<;>simp_all
  · rw[List.getElem?_eq_none (by rw[h1.1];exact hk),List.getElem?_eq_none (by rw[h2.1];exact hk)]
theorem Lx(l:List c6)(now:Int):uU l now ((List.replicate 10 false).set 0 true):=fun k hk=>by
  rcases setAt hk with q|q
  · subst q;exact .root
  · rw[List.getElem?_replicate]at q;split at q<;>simp at q
theorem Au{l:List c6}(h:Ar l)(now:Int):Ng l now (reach l now):=by
  unfold reach;rw[if_pos (fF.2 h)];obtain⟨q1,q2,q3,q4⟩:=yF (now:=now) h 10 ((List.replicate 10 false).set 0 true) rfl (Lx l now);exact Lk h q1 q3 (q2 0 rfl) (q4 (by decide))
theorem od{l:List c6}(h:Ar l)(now:Int):(reach l now).length=10:=(Au h now).1
theorem yE{l:List c6}{now:Int}:∀(m:List c6) (k:Nat) (r:List Bool),(foldI (visit l now) k r m).length=r.length
  | [],k,r=>rfl
  | o::m,k,r=>by unfold foldI;rw[yE m,v7]
theorem NW{N:Nat}(hN:df<=N){l:List c6}(h:Ar l){now:Int}{e:List Int}(he:∀y,y∈e->0<=y/\y<=9)(hl:e.length<=10){r:List Bool}(hr:r.length=10):
    iter (fun(s67:(List Bool)×Int)=>(bif(decide (s67.2<(e.length:Int)))then((idx e s67.2).bind fun y70=>(idx l y70).bind fun y83=>bif(!(eZ y83 now))then((idx s67.1 y70).bind fun y104=>some (.inl (s67.1.set (y70:Int).toNat true,i64.wrap (s67.2+1))))else(some (.inl (s67.1,i64.wrap (s67.2+1)))))else(some (.inr (s67.1,s67.2))):Option (((List Bool)×Int)⊕((List Bool)×Int)))) N (r,0)=some (e.foldl (wi l now) r,(e.length:Int)):=by
  have hB:e.length<df:=Nat.lt_of_le_of_lt hl (by decide)
  rw[show(r,(0:Int))=(fun(k:Nat) (t:List Bool)=>(t,(k:Int))) 0 r from rfl,
    gz e (fun(k:Nat) (t:List Bool)=>(t,(k:Int))) (fun _ t y=>wi l now t y) (fun t=>(t,(e.length:Int))) (fun _ t=>t.length=10) ?_ ?_ (Nat.lt_of_lt_of_le hB hN) hr,i9]
  · intro k t y hy hk ht;obtain⟨y0,y9⟩:=he y (List.mem_of_getElem? hy);refine⟨?_,by rw[Ca,ht]⟩;simp only[ei hk,RM,dM,hy,RK,(h.at y0 y9).1,uy,eB (Nat.lt_trans hk hB),eK (l:=t) y0 (by omega)];unfold wi;cases eZ (nth l y) now<;>rfl
  · intro t _;simp only[ep,RL]
theorem qj{l:List c6}(h:Ar l)(i:Int):(∀y,y∈j5 l i->0<=y/\y<=9)/\(j5 l i).length<=10:=by
  have:=h.len;refine⟨fun y hy=>by have:=wC hy;omega,by have:=Lz l i;omega⟩
theorem Hl{N:Nat}(hN:df<=N){l:List c6}(hb:eE dw l<df)(hw:wA l)(now:Int):sF N l now=some (reach l now):=by
  unfold sF reach;rw[pF hN hb hw,RK];cases ha:gh l
  · rfl
  have h:=fF.1 ha;have hB:=h.wH;simp only[RN,RL,if_true];rw[show mk Bool 10=some (List.replicate 10 false) from rfl];simp only[RK];rw[show idx (List.replicate 10 false) 0=some false from rfl];simp only[RK]
  have hin:∀r:List Bool,r.length=10->iter (fun(s21:(List Bool)×Int)=>(bif(decide (s21.2<(l.length:Int)))then(((idx s21.1 s21.2).bind fun y26=>bif(!y26)then(some true)else((idx l s21.2).bind fun y40=>(j7 N y40 now).bind fun y58=>bif y58 then(some (decide (s21.2>0)))else(some false)):Option Bool).bind fun j24=>bif j24 then(some (.inl (s21.1,i64.wrap (s21.2+1))))else((pS N l s21.2).bind fun y63=>(iter (fun(s67:(List Bool)×Int)=>(bif(decide (s67.2<(y63.length:Int)))then((idx y63 s67.2).bind fun y70=>(idx l y70).bind fun y83=>(j7 N y83 now).bind fun y101=>bif(!y101)then((idx s67.1 y70).bind fun y104=>some (.inl (s67.1.set (y70:Int).toNat true,i64.wrap (s67.2+1))))else(some (.inl (s67.1,i64.wrap (s67.2+1)))))else(some (.inr (s67.1,s67.2))):Option (((List Bool)×Int)⊕((List Bool)×Int)))) N (s21.1,0)).bind fun o111=>some (.inl (o111.1,i64.wrap (s21.2+1)))))else(some (.inr (s21.1,s21.2))):Option (((List Bool)×Int)⊕((List Bool)×Int)))) N (r,0)=some (tW l now r,(l.length:Int)):=by
    intro r hr
    rw[show(r,(0:Int))=(fun(k:Nat) (t:List Bool)=>(t,(k:Int))) 0 r from rfl,
      gz l (fun(k:Nat) (t:List Bool)=>(t,(k:Int))) (fun k t y=>visit l now k t y) (fun t=>(t,(l.length:Int))) (fun _ t=>t.length=10) ?_ ?_ (Nat.lt_of_lt_of_le hB hN) hr]
    · rfl
    · intro k t y hy hk ht
      have hk10:k<10:=by rw[<- h.len];exact hk
      refine⟨?_,by rw[v7,ht]⟩;simp only[ei hk,RM];rw[eK (l:=t) (i:=(k:Int)) (by omega) (by omega)];simp only[dM,hy,RK,uy,eB (Nat.lt_trans hk hB)];rw[HN hN hb hw h (i:=(k:Int)) (by omega) (by omega),RK,NW hN h (qj h _).1 (qj h _).2 ht];unfold visit;cases nth t (k:Int)<;>cases eZ y now<;>cases decide ((k:Int)>0)<;>rfl
    · intro t _;simp only[ep,RL]
  have hout:∀(n:Nat) (j:Nat) (r:List Bool),r.length=10->foldI (fun _ t (_:Unit)=>tW l now t) j r (List.replicate n ())=pM l now n r:=by
    intro n
    induction n with
    | zero=>intro j r _;rfl
    | succ n ih=>intro j r hr;rw[List.replicate_succ];unfold foldI pM;exact ih _ _ (by
        have:=yE (l:=l) (now:=now) l 0 r
        unfold tW;rw[this,hr])
  rw[show(((List.replicate 10 false).set (0:Int).toNat true,(0:Int)):List Bool×Int)=(fun(k:Nat) (t:List Bool)=>(t,(k:Int))) 0 ((List.replicate 10 false).set 0 true) from rfl,
    gz (List.replicate 10 ()) (fun(k:Nat) (t:List Bool)=>(t,(k:Int))) (fun _ t _=>tW l now t) (fun t=>(t,(10:Int))) (fun _ t=>t.length=10) ?_ ?_ (OO (k:=0) hN (by decide)) rfl,hout 10 0 _ rfl]
  · rfl
  · intro k t y hy hk ht
    have hk:k<10:=by simpa using hk
    refine⟨?_,by have:=yE (l:=l) (now:=now) l 0 t;unfold tW;rw[this,ht]⟩
    have h3:decide ((k:Int)<10)=true:=by simp;omega
    simp only[h3,RM];rw[hin t ht];simp only[RK,eB (show k<df from Nat.lt_trans hk (by decide))]
  · intro t _;rfl
def push(l:List c6)(now:Int)(s:List Bool×List Int)(y:Int):List Bool×List Int:=if !(nth s.1 y)&&!eZ (nth l y) now then(s.1.set y.toNat true,s.2++[y])else s
theorem C4{r:List Bool}{y:Int}(h0:0<=y):nth r y=true <-> r[y.toNat]?=some true:=by
  have:=Ah (r:=r) (k:=y.toNat)
  rwa[show((y.toNat:Nat):Int)=y by omega]at this
theorem xE{l:List c6}{now i:Int}(hi:Reaches l now i):∀(e:List Int) (s:List Bool×List Int),(∀y,y∈e->y∈j5 l i/\0<=y/\y<=9)->s.1.length=10->uU l now s.1 ->
    let z:=e.foldl (push l now) s
    z.1.length=10/\uU l now z.1/\yd s.1 z.1/\z.2.length+sv z.1=s.2.length+sv s.1/\(∀y,y∈e->eZ (nth l y) now=false->z.1[y.toNat]?=some true)/\(∀y,y∈s.2->y∈z.2) /\
      (∀y,y∈z.2->y∈s.2\/(0<=y/\z.1[y.toNat]?=some true))/\(∀k:Nat,z.1[k]?=some true->s.1[k]?=some true\/(k:Int)∈z.2)
  | [],s,_,h1,h2=>⟨h1,h2,fun _ h=>h,rfl,fun _ h=>absurd h (by simp),fun _ h=>h,fun _ h=>.inl h,fun _ h=>.inl h⟩
  | y::e,s,he,h1,h2=>by
    obtain⟨e1,e2,e3⟩:=he y (by simp)
    have hlt:y.toNat<s.1.length:=by omega
    simp only[List.foldl_cons]
    by_cases hc:(!(nth s.1 y)&&!eZ (nth l y) now)=true
    · have hp:push l now s y=(s.1.set y.toNat true,s.2++[y]):=by unfold push;rw[if_pos hc]
      simp only[RP,Bool.not_eq_true']at hc
      have hf:s.1[y.toNat]?=some false:=by
        have:¬ s.1[y.toNat]?=some true:=fun q=>by rw[(C4 e2).2 q]at hc;simp at hc
        rw[List.getElem?_eq_getElem hlt]at this⊢;cases hb:s.1[y.toNat]<;>simp_all
      have hs:uU l now (s.1.set y.toNat true):=fun k hk=>by
        rcases setAt hk with q|q
        · have e:(k:Int)=y:=by omega
          rw[e];exact .step hi e1 hc.2
        · exact h2 k q
      rw[hp];obtain⟨a1,a2,a3,a4,a5,a6,a7,a8⟩:=xE hi e (s.1.set y.toNat true,s.2++[y]) (fun x hx=>he x (by simp[hx])) (by simpa using h1) hs;have hy:(e.foldl (push l now) (s.1.set y.toNat true,s.2++[y])).1[y.toNat]?=some true:=a3 _ (List.getElem?_set_self hlt);refine⟨a1,a2,fun k hk=>a3 k (HB k hk),?_,fun x hx hxx=>?_,fun x hx=>a6 x (by simp[hx]),fun x hx=>?_,fun k hk=>?_⟩
      · have:=HY hf;simp only[List.length_append,List.length_cons,List.length_nil]at a4;omega
      · rcases List.mem_cons.1 hx with rfl|hx
        · exact hy
        · exact a5 x hx hxx
      · rcases a7 x hx with q|q
        · rcases List.mem_append.1 q with q|q
          · exact .inl q
          · simp at q;subst q;exact .inr ⟨e2,hy⟩
        · exact .inr q
      · rcases a8 k hk with q|q
        · rcases setAt q with q|q
          · refine .inr (a6 (k:Int) ?_)
            have e:(k:Int)=y:=by omega
            simp[e]
          · exact .inl q
        · exact .inr q
    · have hp:push l now s y=s:=by unfold push;rw[if_neg hc]
      rw[hp];obtain⟨a1,a2,a3,a4,a5,a6,a7,a8⟩:=xE hi e s (fun x hx=>he x (by simp[hx])) h1 h2;refine⟨a1,a2,a3,a4,fun x hx hxx=>?_,a6,a7,a8⟩
      rcases List.mem_cons.1 hx with rfl|hx
      · refine a3 _ ((C4 e2).1 ?_);cases hn:nth s.1 x
        · exact absurd (show(!(nth s.1 x)&&!eZ (nth l x) now)=true by simp[hn,hxx]) hc
        · rfl
      · exact a5 x hx hxx
theorem Ci(l:List c6)(now:Int):∀(e:List Int) (s:List Bool×List Int),s.2.length<=(e.foldl (push l now) s).2.length
  | [],s=>Nat.le_refl _
  | y::e,s=>by
    rw[List.foldl_cons];refine Nat.le_trans ?_ (Ci l now e _);unfold push;split<;>simp
theorem MK{N:Nat}(hN:df<=N){l:List c6}(h:Ar l){now:Int}{e:List Int}(he:∀y,y∈e->0<=y/\y<=9)(hl:e.length<=10){r:List Bool}(hr:r.length=10){t:List Int}(ht:t.length<=100):
    iter (fun(s45:(List Bool)×(List Int)×Int)=>(bif(decide (s45.2.2<(e.length:Int)))then((idx e s45.2.2).bind fun y48=>((idx s45.1 y48).bind fun y63=>bif(!y63)then((idx l y48).bind fun y77=>(kU N y77 now).bind fun y95=>some (!y95))else(some false):Option Bool).bind fun j61=>bif j61 then((idx s45.1 y48).bind fun y99=>(app s45.2.1 [y48]).bind fun y106=>some (.inl (s45.1.set (y48:Int).toNat true,y106,i64.wrap (s45.2.2+1))))else(some (.inl (s45.1,s45.2.1,i64.wrap (s45.2.2+1)))))else(some (.inr (s45.1,s45.2.1,s45.2.2))):Option (((List Bool)×(List Int)×Int)⊕((List Bool)×(List Int)×Int)))) N (r,t,0) =
      some ((e.foldl (push l now) (r,t)).1,(e.foldl (push l now) (r,t)).2,(e.length:Int)):=by
  have hB:e.length<df:=Nat.lt_of_le_of_lt hl (by decide)
  rw[show(r,t,(0:Int))=(fun(k:Nat) (s:List Bool×List Int)=>(s.1,s.2,(k:Int))) 0 (r,t) from rfl,
    gz e (fun(k:Nat) (s:List Bool×List Int)=>(s.1,s.2,(k:Int))) (fun _ s y=>push l now s y) (fun s=>(s.1,s.2,(e.length:Int))) (fun k s=>s.1.length=10/\s.2.length<=100+k) ?_ ?_ (Nat.lt_of_lt_of_le hB hN) ⟨hr,ht⟩,i9]
  · intro k s y hy hk ⟨i1,i2⟩;obtain⟨y0,y9⟩:=he y (List.mem_of_getElem? hy)
    refine⟨?_,by
      unfold push;split
      · simp only[List.length_set,List.length_append,List.length_cons,List.length_nil];omega
      · omega⟩
    have hkB:100+k+1<df:=by have:(16777216:Nat)=df:=rfl;omega
    simp only[ei hk,RM,dM,hy,RK,(h.at y0 y9).1,wy,eB (Nat.lt_trans hk hB),eK (l:=s.1) y0 (by omega),fZ i2 hkB,iB];unfold push;cases(!(nth s.1 y)&&!eZ (nth l y) now)<;>rfl
  · intro s _;simp only[ep,RL]
theorem HC{N:Nat}(hN:df<=N){l:List c6}(hb:eE dw l<df)(now:Int):sB N l now=some (reach l now):=by
  unfold sB;rw[uw hN hb,RK];cases ha:gh l
  · unfold reach;rw[ha];rfl
  have h:=fF.1 ha;simp only[RN,RL];rw[show mk Bool 10=some (List.replicate 10 false) from rfl];simp only[RK];rw[show idx (List.replicate 10 false) 0=some false from rfl];simp only[RK]
  obtain⟨z,hz,hz1,hz2,hz3,hz4⟩:=DU (body:=fun(s18:(List Bool)×(List Int))=>(bif(decide ((s18.2.length:Int)>0))then((idx s18.2 0).bind fun y21=>(sub s18.2 1 (s18.2.length:Int)).bind fun y34=>(nh N l y21).bind fun y41=>(iter (fun(s45:(List Bool)×(List Int)×Int)=>(bif(decide (s45.2.2<(y41.length:Int)))then((idx y41 s45.2.2).bind fun y48=>((idx s45.1 y48).bind fun y63=>bif(!y63)then((idx l y48).bind fun y77=>(kU N y77 now).bind fun y95=>some (!y95))else(some false):Option Bool).bind fun j61=>bif j61 then((idx s45.1 y48).bind fun y99=>(app s45.2.1 [y48]).bind fun y106=>some (.inl (s45.1.set (y48:Int).toNat true,y106,i64.wrap (s45.2.2+1))))else(some (.inl (s45.1,s45.2.1,i64.wrap (s45.2.2+1)))))else(some (.inr (s45.1,s45.2.1,s45.2.2))):Option (((List Bool)×(List Int)×Int)⊕((List Bool)×(List Int)×Int)))) N (s18.1,y34,0)).bind fun o111=>some (.inl (o111.1,o111.2.1)))else(some (.inr (s18.1,s18.2))):Option (((List Bool)×(List Int))⊕((List Bool)×(List Int)))))
    (fun s=>s.2.length+2*sv s.1)
    (fun s=>s.1.length=10/\uU l now s.1/\s.1[0]?=some true/\s.2.length+sv s.1<=10/\(∀y,y∈s.2->0<=y/\s.1[y.toNat]?=some true)/\∀i:Nat,s.1[i]?=some true->(i:Int)∈s.2\/∀y,y∈j5 l (i:Int)->eZ (nth l y) now=false->s.1[y.toNat]?=some true)
    (fun s=>s.1.length=10/\uU l now s.1/\s.1[0]?=some true/\ya l now s.1 s.1)
    (fun s hI=>by
      obtain⟨r,t⟩:=s;obtain⟨i1,i2,i3,i4,i5,i6⟩:=hI;simp only at i1 i2 i3 i4 i5 i6
      cases t with
      | nil=>exact .inr ⟨(r,[]),rfl,i1,i2,i3,fun i hi=>by have:=i6 i hi;simpa using this⟩
      | cons x t =>
        left;obtain⟨x0,xr⟩:=i5 x (by simp)
        have hx:Reaches l now x:=by have:=i2 x.toNat xr;rwa[show((x.toNat:Nat):Int)=x by omega]at this
        obtain⟨_,x9⟩:=hx.zy h
        have hsub:sub (x::t) 1 ((x::t).length:Int)=some t:=by
          unfold sub;rw[if_pos ⟨by omega,by simp only[List.length_cons];omega,Int.le_refl _⟩];simp
        obtain⟨e1,e2⟩:=qj h x
        have hpos:decide (((x::t).length:Int)>0)=true:=by simp
        obtain⟨a1,a2,a3,a4,a5,a6,a7,a8⟩:=xE hx (j5 l x) (r,t) (fun y hy=>⟨hy,e1 y hy⟩) i1 i2;simp only[List.length_cons]at i4;refine⟨(j5 l x).foldl (push l now) (r,t),?_,⟨a1,a2,a3 0 i3,by simp only at a4;omega,fun y hy=>?_,fun i hi=>?_⟩,?_⟩
        · simp only[hpos,RM];rw[show idx (x::t) 0=some x from rfl];simp only[RK,hsub];rw[C7 hN h x0 x9,RK,MK hN h e1 e2 i1 (by omega)];rfl
        · rcases a7 y hy with q|q
          · obtain⟨q1,q2⟩:=i5 y (by simp[show y∈t from q]);exact⟨q1,a3 _ q2⟩
          · exact q
        · rcases a8 i hi with q|q
          · rcases i6 i q with q|q
            · rcases List.mem_cons.1 q with q|q
              · rw[q];exact .inr a5
              · exact .inl (a6 _ q)
            · exact .inr fun y hy hyx=>a3 _ (q y hy hyx)
          · exact .inl q
        · simp only[List.length_cons]at a4⊢
          have hle:sv ((j5 l x).foldl (push l now) (r,t)).1<=sv r:=by
            have:t.length<=((j5 l x).foldl (push l now) (r,t)).2.length:=Ci l now (j5 l x) (r,t);omega
          omega)
    N ((List.replicate 10 false).set 0 true,[0]) ⟨rfl,Lx l now,rfl,by decide,fun y hy=>by simp at hy;subst hy;exact⟨by decide,rfl⟩,fun i hi=>by
      rcases setAt hi with q|q
      · subst q;exact .inl (by simp)
      · rw[List.getElem?_replicate]at q;split at q<;>simp at q⟩ (by have:16777216<=N:=hN;simp only[show sv ((List.replicate 10 false).set 0 true)=9 from rfl,List.length_cons,List.length_nil];omega)
  rw[show((List.replicate 10 false).set (0:Int).toNat true)=(List.replicate 10 false).set 0 true from rfl,hz,RK];exact congrArg some (O9 (Lk h hz1 hz2 hz3 hz4) (Au h now))
theorem k8{h:dm}(q:gn h=true):Ar h.ag:=by
  unfold gn at q;simp only[RP]at q;exact fF.1 q.1
def threads(p:bh)(now:Int):List Int:=if dH p then jo (fun k b=>b&&((nth p.py.ag (k:Int)).Rq==4)) (fun k _=>(k:Int)) 0 (reach p.py.ag now)else[]
theorem fb{p:bh}(h:dH p=true):Ar p.py.ag:=by
  unfold dH gn at h;simp only[RP]at h;exact fF.1 h.2.2.2.1.1
theorem kW{p:bh}{now k:Int}(h:k∈threads p now):dH p=true/\0<=k/\k<=9:=by
  unfold threads at h;split at h
  · rename_i hp;obtain⟨j,b,h1,_,h3⟩:=uh.1 h;have:=eF h1;rw[od (fb hp)]at this;have h3:k=((0+j:Nat):Int):=h3;exact⟨hp,by omega,by omega⟩
  · simp at h
theorem zS{N:Nat}(hN:df<=N){l:List c6}(h:Ar l){now:Int}{body:List Int×Int->Option ((List Int×Int)⊕(List Int×Int))}
    (hs:∀(k:Nat) (t:List Int) (b:Bool),(reach l now)[k]?=some b->k<10->t.length<=k->body (t,(k:Int))=some (.inl (if b&&((nth l (k:Int)).Rq==4)then t++[(k:Int)]else t,((k+1:Nat):Int))))
    (he:∀t,body (t,10)=some (.inr (t,10))):iter body N ([],0)=some (jo (fun k b=>b&&((nth l (k:Int)).Rq==4)) (fun k _=>(k:Int)) 0 (reach l now),10):=by
  have hl:=od h now
  have e:((reach l now).length:Int)=10:=by omega
  rw[jq (reach l now) (fun k b=>b&&((nth l (k:Int)).Rq==4)) (fun k _=>(k:Int)) (by rw[hl];decide) hN,e]
  · intro k t b hb hk ht;exact hs k t b hb (by omega) ht
  · intro t;rw[e];exact he t
theorem x7{N:Nat}(hN:df<=N){p:bh}(hb:dC p<df)(now:Int):ni N p now=some (threads p now):=by
  unfold ni threads;rw[sb hN hb,RK];cases hp:dH p
  · rfl
  have h:=fb hp;have hl:=od h now;simp only[RN,RL,HC hN (gm hb).2.2.2.1,RK,if_true];rw[zS hN h]
  · rfl
  · intro k t b hy hk ht
    have hd:decide ((k:Int)<((reach p.py.ag now).length:Int))=true:=by simp;omega
    simp only[hd,RM];rw[(h.at (i:=(k:Int)) (by omega) (by omega)).1];simp only[dM,hy,RK,iB,eB (show k<df from Nat.lt_trans hk (by decide)),fZ ht (show k+1<df from Nat.lt_trans (Nat.succ_lt_succ hk) (by decide))];cases(b&&((nth p.py.ag (k:Int)).Rq==4))<;>rfl
  · intro t;simp only[hl];rfl
theorem wc{N:Nat}(hN:df<=N){p:bh}(hb:dC p<df)(hw:wP p)(now:Int):mf N p now=some (threads p now):=by
  unfold mf threads;rw[sd hN hb hw,RK];cases hp:dH p
  · rfl
  have h:=fb hp;have hl:=od h now;simp only[RN,RL,Hl hN (gm hb).2.2.2.1 hw,RK,if_true];rw[zS hN h]
  · rfl
  · intro k t b hy hk ht
    have hd:decide ((k:Int)<((reach p.py.ag now).length:Int))=true:=by simp;omega
    simp only[hd,RM];rw[(h.at (i:=(k:Int)) (by omega) (by omega)).1];simp only[dM,hy,RK,iB,eB (show k<df from Nat.lt_trans hk (by decide)),fZ ht (show k+1<df from Nat.lt_trans (Nat.succ_lt_succ hk) (by decide))];cases(b&&((nth p.py.ag (k:Int)).Rq==4))<;>rfl
  · intro t;simp only[hl];rfl
theorem pf(p:bh)(now:Int):(threads p now).length<df:=by
  unfold threads;split
  · rename_i hp;refine Nat.lt_of_le_of_lt (um _ _ _ _) ?_;rw[od (fb hp)];decide
  · decide
def ig(p:bh)(now:Int)(th:Int):Bool:=(threads p now).contains th&&((nth p.py.ag th).Ry==0)
theorem CF{N:Nat}(hN:df<=N){p:bh}(hb:dC p<df)(now th:Int):oZ N p now th=some (ig p now th):=by
  unfold oZ ig;simp only[x7 hN hb,RK,sR hN (pf p now)];cases hc:(threads p now).contains th
  · rfl
  · obtain⟨h1,h2,h3⟩:=kW (List.contains_iff_mem.1 hc);simp only[RM,((fb h1).at h2 h3).1,RK,RO]
theorem Co{N:Nat}(hN:df<=N){p:bh}(hb:dC p<df)(hw:wP p)(now th:Int):o7 N p now th=some (ig p now th):=by
  unfold o7 ig;simp only[wc hN hb hw,RK,wU hN (pf p now)];cases hc:(threads p now).contains th
  · rfl
  · obtain⟨h1,h2,h3⟩:=kW (List.contains_iff_mem.1 hc);simp only[RM,((fb h1).at h2 h3).1,RK,RO]
theorem tP{α:Type}{f:α->Nat}{c:Nat}:∀{l:List α},(∀y,y∈l->f y<=c)->lI f l<=c*l.length
  | [],_=>Nat.zero_le _
  | y::l,h=>by
    have h1:=h y (by simp);have h2:=tP (l:=l) fun z hz=>h z (by simp[hz]);simp only[lI,List.length_cons,Nat.mul_add];omega
theorem EV{α:Type}{f:α->Nat}{y:α}:∀{l:List α} {k:Nat},lI f (l.set k y)<=lI f l+f y
  | [],k=>by simp[lI]
  | z::l,0=>by simp only[List.set_cons_zero,lI];omega
  | z::l,k+1=>by
    have:=EV (f:=f) (y:=y) (l:=l) (k:=k);simp only[List.set_cons_succ,lI];omega
theorem wZ{α:Type}{f:α->Nat}{y:α}{l:List α}{k:Nat}:eE f (l.set k y)<=eE f l+f y:=by
  have:=EV (f:=f) (y:=y) (l:=l) (k:=k);unfold eE;simp only[List.length_set];omega
theorem xH{o:c6}(h:eG o=true):dw o<=12:=by
  have hl:=(o6 h).1;unfold eG at h;unfold dw;cases hk:o.Rq==0
  · simp only[hk,RL,RP]at h;obtain⟨_,_,_,_,_,hp,hl2,_⟩:=h;unfold iT at hl2;simp only[RP,decide_eq_true_eq,beq_iff_eq]at hl2;obtain⟨_,_,_,_,hd,hq⟩:=hl2;rw[dI]at hp
    have:o.Rw.length<=8:=by
      cases h2:o.Rq==2
      · rw[h2]at hd;simp only[RL]at hd;omega
      · rw[h2]at hd;simp only[RM]at hd;omega
    have:o.Rs.length<=2:=by
      cases h3:o.Rq==3
      · rw[h3]at hq;simp only[RL]at hq;omega
      · rw[h3]at hq;simp only[RM]at hq;omega
    omega
  · simp only[hk,RM,RP,decide_eq_true_eq]at h;rw[h.2.2];simp[blank]
theorem Ar.sz{l:List c6}(h:Ar l):eE dw l<=130:=by
  have h1:=tP (f:=dw) (c:=12) fun y hy=>xH (h.ok y hy);have h2:=h.len;unfold eE;rw[h2]at h1⊢;omega
theorem iH{l:List c6}{k:Nat}{o:c6}(h:wA l)(ho:mo o):wA (l.set k o):=fun y hy=>by
  rcases List.mem_or_eq_of_mem_set hy with q|q
  · exact h y q
  · rw[q];exact ho
def gD(o:c6)(g:Int):c6:=c6.mk g o.Rq o.box o.RF o.dY o.cd o.Ry o.ee o.ed o.mark o.dk o.Rw o.Rs
def putAt(l:List c6)(o:c6)(k:Nat)(x:c6):List c6×Int:=if gh (l.set k (gD o (i64.wrap (x.RG+1))))&&(o.Rq != 0)then(l.set k (gD o (i64.wrap (x.RG+1))),(k:Int))else(l, -1)
def qJ(l:List c6)(o:c6):Nat->List c6->List c6×Int
  | _,[]=>(l, -1)
  | k,x::m=>if x.Rq != 0 || decide (x.RG>=999)then qJ l o (k+1) m else putAt l o k x
def gT(l:List c6)(o:c6):List c6×Int:=if gh l then qJ l o 1 (l.drop 1)else(l, -1)
theorem AU{l:List c6}{o:c6}(h:(o.Rq != 0)=false):∀(m:List c6) (k:Nat),qJ l o k m=(l, -1)
  | [],k=>rfl
  | x::m,k=>by
    unfold qJ putAt;rw[h,AU h m];simp
theorem FD{ρ:Type}{body:Int->Option (Int⊕ρ)}(l:List c6)(p:c6->Bool)(g:Nat->c6->ρ)(r:ρ){N:Nat}(hN:l.length+1<N)(hl:1<=l.length)
    (hs:∀(k:Nat) (x:c6),l[k]?=some x->1<=k->k<l.length->body (k:Int)=some (if p x then .inl ((k+1:Nat):Int)else .inr (g k x))) (he:body (l.length:Int)=some (.inr r)) :
    iter body N 1=some (jL (fun k (_:Unit) x=>if p x then .inl ()else .inr (g (k+1) x)) (fun _=>r) 0 () (l.drop 1)):=by
  have hd:(l.drop 1).length+1=l.length:=by simp;omega
  rw[show(1:Int)=(fun(k:Nat) (_:Unit)=>((k+1:Nat):Int)) 0 () from rfl,
    ku (l.drop 1) (fun(k:Nat) (_:Unit)=>((k+1:Nat):Int)) (fun k _ x=>if p x then .inl ()else .inr (g (k+1) x)) (fun _=>r) (fun _ _=>True) ?_ ?_ (by omega) trivial]
  · intro k _ x hx hk _
    have hx:l[k+1]?=some x:=by rw[<- hx,List.getElem?_drop,Nat.add_comm]
    refine⟨?_,fun _ _=>trivial⟩
    show body ((k+1:Nat):Int)=_
    rw[hs (k+1) x hx (by omega) (by omega)];cases p x<;>rfl
  · intro _ _;simp only[hd];exact he
theorem BM{ρ:Type}(l:List c6)(o:c6)(r:ρ)(c:ρ->Option (List c6×Int))(g:Nat->c6->ρ)(hr:c r=some (l, -1))(hg:∀k x,c (g k x)=some (putAt l o k x)):∀(m:List c6) (k:Nat),
    c (jL (fun k (_:Unit) x=>if x.Rq != 0 || decide (x.RG>=999)then .inl ()else .inr (g (k+1) x)) (fun _=>r) k () m)=some (qJ l o (k+1) m)
  | [],k=>hr
  | x::m,k=>by
    unfold jL qJ;cases h:(x.Rq != 0 || decide (x.RG>=999))
    · simp only[Bool.false_eq_true,if_false];exact hg _ _
    · simp only[if_true];exact BM l o r c g hr hg m (k+1)
theorem CC(o:c6)(g:Int):dw (gD o g)=dw o:=rfl
theorem z8{o:c6}{g:Int}(h:mo o):mo (gD o g):=h
theorem Mv{l:List c6}(h:Ar l){o:c6}(ho:dw o<=100000)(k:Nat):eE dw (l.set k o)<df:=by
  have h1:=h.sz;have h2:=wZ (f:=dw) (y:=o) (l:=l) (k:=k);have:(16777216:Nat)=df:=rfl;omega
theorem Bb{N:Nat}(hN:df+1<=N){l:List c6}(hb:eE dw l<df){o:c6}(ho:dw o<=100000):nK N l o=some (gT l o):=by
  have hN':df<=N:=Nat.le_of_succ_le hN;have hB:(16777216:Nat)=df:=rfl
  have hoB:dw o<df:=by omega
  unfold nK gT;simp only[tX hN' hb,uw hN' hb,RK,gv];cases ha:gh l
  · rfl
  have h:=fF.1 ha;have hl:=h.len;simp only[RN,Bool.false_or,if_true];cases hk:(o.Rq != 0)
  · rw[AU hk]
    have:(o.Rq==0)=true:=by simpa[bne]using hk
    rw[this];rfl
  · have hk0:(o.Rq==0)=false:=by simpa[bne]using hk
    simp only[hk0,RL];obtain⟨M,rfl⟩:∃M,N=M+1:=⟨N-1,by omega⟩;have hd:∀k:Nat,k<l.length->decide ((k:Int)<(l.length:Int))=true:=fun k hk=>ei hk;have h0:decide ((0:Int)<(l.length:Int))=true:=hd 0 (by omega);unfold iter;simp only[h0,RM,(h.at (i:=0) (by omega) (by omega)).1,RK,beq_self_eq_true,Bool.true_or,show i64.wrap (0+1)=1 from by decide];rw[FD l (fun x=>x.Rq != 0 || decide (x.RG>=999)) (fun k x=>if gh (l.set k (gD o (i64.wrap (x.RG+1))))then Sum.inr (l.set k (gD o (i64.wrap (x.RG+1))),(k:Int))else Sum.inr (l, -1)) (Sum.inl (l.length:Int)) (by omega) (by omega)]
    · simp only[RK]
      exact BM l o (Sum.inl (l.length:Int)) (fun o73=>Sum.elim (fun o73=>some (l, -1)) (fun r76=>some r76) o73) (fun k x=>if gh (l.set k (gD o (i64.wrap (x.RG+1))))then Sum.inr (l.set k (gD o (i64.wrap (x.RG+1))),(k:Int))else Sum.inr (l, -1)) rfl (fun k x=>by
        unfold putAt;rw[hk]
        cases gh (l.set k (gD o (i64.wrap (x.RG+1))))<;>rfl) _ 0
    · intro k x hx hk1 hkl
      have hne:((k:Int)==0)=false:=by simp;omega
      have e1:idx (l.set k o) (k:Int)=some o:=H8 hkl;simp only[hd k hkl,RM,dM,hx,RK,hne,RL,gv,eB (show k<df by omega),tX hN' hb,CO hoB,Int.toNat_natCast,List.getElem?_set_self hkl,List.set_set];rw[show c6.mk (i64.wrap (x.RG+1)) o.Rq o.box o.RF o.dY o.cd o.Ry o.ee o.ed o.mark o.dk o.Rw o.Rs=gD o (i64.wrap (x.RG+1)) from rfl,uw hN' (Mv h (by rw[CC];exact ho) k)];cases(x.Rq != 0 || decide (x.RG>=999))
      · cases gh (l.set k (gD o (i64.wrap (x.RG+1))))<;>rfl
      · rfl
    · simp only[ep,RL]
theorem AV{N:Nat}(hN:df<=N){l:List c6}(hb:eE dw l<df)(hw:wA l){o:c6}(ho:dw o<=100000)(hwo:mo o):nM N l o=some (gT l o):=by
  have hB:(16777216:Nat)=df:=rfl
  have hoB:dw o<df:=by omega
  unfold nM gT;simp only[z6 hN hb,pF hN hb hw,RK];cases ha:gh l
  · rfl
  have h:=fF.1 ha;have hl:=h.len;simp only[RN,RL,if_true];rw[FD l (fun x=>x.Rq != 0 || decide (x.RG>=999)) (fun k x=>Sum.inr (putAt l o k x)) (Sum.inl (l.length:Int)) (by omega) (by omega)]
  · simp only[RK];exact BM l o (Sum.inl (l.length:Int)) (fun o84=>Sum.elim (fun o84=>some (l, -1)) (fun r87=>some r87) o84) (fun k x=>Sum.inr (putAt l o k x)) rfl (fun k x=>rfl) _ 0
  · intro k x hx hk1 hkl;simp only[ei hkl,RM,dM,hx,RK,gv,eB (show k<df by omega),HV hoB,Int.toNat_natCast];rw[show c6.mk (i64.wrap (x.RG+1)) o.Rq o.box o.RF o.dY o.cd o.Ry o.ee o.ed o.mark o.dk o.Rw o.Rs=gD o (i64.wrap (x.RG+1)) from rfl,pF hN (Mv h (by rw[CC];exact ho) k) (iH hw (z8 hwo))];simp only[RK,gv];unfold putAt
    have hk:(o.Rq==0)=!(o.Rq != 0):=by simp[bne]
    rw[hk];cases(x.Rq != 0 || decide (x.RG>=999))
    · cases gh (l.set k (gD o (i64.wrap (x.RG+1))))<;>cases(o.Rq != 0)<;>rfl
    · rfl
  · simp only[ep,RL]
def marked(o:c6)(m:Bool):c6:=c6.mk o.RG o.Rq o.box o.RF o.dY o.cd o.Ry o.ee o.ed m o.dk o.Rw o.Rs
def km(h:dm)(i:Int):dm:=if gn h&&(dv i 0 9&&((nth h.ag i).Rq != 0))then dm.mk (h.ag.set i.toNat (marked (nth h.ag i) ((h.gc.Ru==0) || decide (i>=h.gc.RD)))) h.gc else h
theorem EZ{N:Nat}(hN:df<=N){h:dm}(h1:eE dw h.ag<df)(h2:h.gc.da.length<df)(i:Int):qu N h i=some (km h i):=by
  unfold qu km;simp only[uV hN h1 h2,xI hN h1 h2,sc,RK];cases q:gn h
  · rfl
  cases hi:dv i 0 9
  · rfl
  have hr:=dI.1 hi;simp only[RM,((k8 q).at hr.1 hr.2).1,RK,RO];cases(nth h.ag i).Rq != 0
  · rfl
  · cases h.gc.Ru==0<;>rfl
theorem FQ{N:Nat}(hN:df<=N){h:dm}(h1:eE dw h.ag<df)(h2:h.gc.da.length<df)(hw:wA h.ag)(i:Int):qF N h i=some (km h i):=by
  unfold qF km;simp only[wo hN h1 h2,xF hN h1 h2 hw,qe,RK,bne];cases q:gn h
  · rfl
  cases hi:dv i 0 9
  · rfl
  have hr:=dI.1 hi;simp only[RN,RL,((k8 q).at hr.1 hr.2).1,RK,RO];cases(nth h.ag i).Rq==0
  · cases h.gc.Ru==0<;>rfl
  · rfl
end Go.Kx
