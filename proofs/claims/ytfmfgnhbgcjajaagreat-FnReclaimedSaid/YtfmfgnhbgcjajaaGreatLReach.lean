import Derived.Test.YtfmfgnhbgcjajaaGreatLSame
namespace Go.Kx
open Go
open Go.IntKind (i64)
set_option linter.unusedVariables false
set_option linter.unusedSimpArgs false
set_option maxRecDepth 10000
theorem EJ{σ ρ:Type}{body:σ->Option (σ⊕ρ)}(μ:σ->Nat)(I:σ->Prop)(Q:ρ->Prop)(h:∀s,I s->(∃s',body s=some (.inl s')/\I s'/\μ s'<μ s)\/∃r,body s=some (.inr r)/\Q r):∀(N:Nat) (s:σ),I s->μ s<N->∃r,iter body N s=some r/\Q r
  | 0,s,_,hN=>by omega
  | N+1,s,hI,hN=>by
    unfold iter
    rcases h s hI with⟨s',h1,h2,h3⟩|⟨r,h1,h2⟩
    · rw[h1];exact EJ μ I Q h N s' h2 (by omega)
    · rw[h1];exact⟨r,rfl,h2⟩
theorem ot{α β:Type}{p:Nat->α->Bool}{h:Nat->α->β}{z:β}:∀{l:List α} {k:Nat},z∈jd p h k l <-> ∃(i:Nat) (y:α),l[i]?=some y/\p (k+i) y=true/\z=h (k+i) y
  | [],k=>by simp[jd]
  | y::l,k=>by
    have ih:=ot (p:=p) (h:=h) (z:=z) (l:=l) (k:=k+1)
    have key:(∃(i:Nat) (x:α),(y::l)[i]?=some x/\p (k+i) x=true/\z=h (k+i) x) <-> (p k y=true/\z=h k y)\/z∈jd p h (k+1) l:=by
      rw[ih];constructor
      · rintro⟨i,x,h1,h2,h3⟩
        cases i with
        | zero=>simp at h1;subst h1;exact .inl ⟨h2,h3⟩
        | succ i=>exact .inr ⟨i,x,by simpa using h1,by rwa[show k+1+i=k+(i+1) by omega],by rwa[show k+1+i=k+(i+1) by omega]⟩
      · rintro(⟨h2,h3⟩|⟨i,x,h1,h2,h3⟩)
        · exact⟨0,y,rfl,h2,h3⟩
        · exact⟨i+1,x,by simpa using h1,by rwa[show k+(i+1)=k+1+i by omega],by rwa[show k+(i+1)=k+1+i by omega]⟩
    rw[key,show jd p h k (y::l)=if p k y then h k y::jd p h (k+1) l else jd p h (k+1) l from rfl];cases hp:p k y<;>simp
structure Ar (l:List cd):Prop where
  len:l.length=10
  sd:(nth l 0).so=1
  yX:(nth l 0).box=-1
  yM:(nth l 0).dV=1000000
  ok:∀o,o∈l->eG o=true
  dk:∀o,o∈l->∀y,y∈o.dk->0<=y->(nth l y).so ≠ 0
  box:∀(k:Nat) (o:cd),l[k]?=some o->0<k->o.so ≠ 0->0<=o.box->(nth l o.box).so ≠ 0
theorem I5{l:List cd}{k:Nat}{o:cd}:tN l k o=true <-> eG o=true/\(0<k->o.so ≠ 0->0<=o.box->(nth l o.box).so ≠ 0)/\∀y,y∈o.dk->0<=y->(nth l y).so ≠ 0:=by
  unfold tN vH uC;simp only[RG,List.all_eq_true,Bool.not_eq_true',Bool.and_eq_false_iff,decide_eq_false_iff_not,bne_eq_false_iff_eq,beq_eq_false_iff_ne,ne_eq];constructor
  · rintro⟨⟨h1,h2⟩,h3⟩;refine⟨h1,fun a b c=>?_,fun y hy h0=>?_⟩
    · rcases h2 with q|q|q|q
      · omega
      · exact absurd q b
      · omega
      · exact q
    · rcases h3 y hy with q|q
      · omega
      · exact q
  · rintro⟨h1,h2,h3⟩;refine⟨⟨h1,?_⟩,fun y hy=>?_⟩
    · by_cases a:0<k
      · by_cases b:o.so=0
        · exact .inr (.inl b)
        · by_cases c:0<=o.box
          · exact .inr (.inr (.inr (h2 a b c)))
          · exact .inr (.inr (.inl (by omega)))
      · exact .inl (by omega)
    · by_cases c:0<=y
      · exact .inr (h3 y hy c)
      · exact .inl (by omega)
theorem fu{l:List cd}:fT l=true <-> Ar l:=by
  unfold fT vv;simp only[RG,Bool.not_eq_true',bne_eq_false_iff_eq,Bool.or_eq_false_iff,jL,Nat.zero_add,I5];constructor
  · rintro⟨h1,⟨h2,h3,h4⟩,h5⟩;have hm:∀o,o∈l->∃k:Nat,l[k]?=some o:=fun o ho=>List.getElem?_of_mem ho;refine⟨by omega,h2,h3,h4,fun o ho=>?_,fun o ho=>?_,fun k o hk=>?_⟩
    · obtain⟨k,hk⟩:=hm o ho;exact(h5 k o hk).1
    · obtain⟨k,hk⟩:=hm o ho;exact(h5 k o hk).2.2
    · exact(h5 k o hk).2.1
  · intro h;refine⟨by have:=h.len;omega,⟨h.sd,h.yX,h.yM⟩,fun i y hy=>⟨h.ok y (List.mem_of_getElem? hy),h.box i y hy,h.dk y (List.mem_of_getElem? hy)⟩⟩
theorem Ar.at{l:List cd}(h:Ar l){i:Int}(h0:0<=i)(h9:i<=9):idx l i=some (nth l i)/\nth l i∈l:=⟨eU h0 (by have:=h.len;omega),gy h0 (by have:=h.len;omega)⟩
theorem Ar.wY{l:List cd}(h:Ar l):l.length<dg:=by rw[h.len];decide
def ey(o:cd)(now:Int):Bool:=bif o.so==0 then true else decide (o.dV<now)
theorem wE(N:Nat)(o:cd)(now:Int):ll N o now=some (ey o now):=oq _ _ _
theorem uF(N:Nat)(o:cd)(now:Int):kt N o now=some (ey o now):=oq _ _ _
theorem yu{o:cd}{now:Int}(h:ey o now=false):o.so ≠ 0:=by
  intro q;unfold ey at h;simp[q]at h
def vU(l:List cd)(i:Int)(k:Nat)(y:cd):Bool:=(decide ((k:Int)>0)&&(y.so != 0&&((y.box==i)&&((nth l i).so==1)))) || (nth l i).dk.contains (k:Int)
def fx(l:List cd)(i:Int):List Int:=jd (vU l i) (fun k _=>(k:Int)) 0 l
theorem JP{o:cd}(h:eG o=true):o.dk.length<dg:=Nat.lt_of_le_of_lt (pB h).1 (by decide)
theorem jv{l:List cd}{i k:Int}(h:k∈fx l i):0<=k/\k<(l.length:Int):=by
  obtain⟨j,y,h1,_,h3⟩:=ot.1 h;have:=eA h1;have h3:k=((0+j:Nat):Int):=h3;omega
theorem Lc(l:List cd)(i:Int):(fx l i).length<=l.length:=uI _ _ _ _
theorem CH{N:Nat}(hN:dg<=N){l:List cd}(h:Ar l){i:Int}(h0:0<=i)(h9:i<=9):nF N l i=some (fx l i):=by
  obtain⟨q1,q2⟩:=h.at h0 h9;have hB:=h.wY;unfold nF fx;rw[kQ l (vU l i) (fun k _=>(k:Int)) hB hN]
  · rfl
  · intro k t y hy hk ht;simp only[eD hk,RD,dQ,hy,RB,q1,tR hN (JP (h.ok _ q2)),iI,gX,eL (Nat.lt_trans hk hB),gE ht (Nat.lt_of_le_of_lt hk hB)]
    show(bif vU l i k y then _ else _)=_
    cases vU l i k y<;>rfl
  · intro t;simp only[eE,RC]
theorem BL{l:List cd}(h:Ar l){i:Int}(h0:0<=i)(h9:i<=9)(hk:(nth l i).so=0):fx l i=[]:=by
  obtain⟨_,q2⟩:=h.at h0 h9
  have hl:(nth l i).dk=[]:=by
    have:=h.ok _ q2;unfold eG at this;simp only[hk,beq_self_eq_true,RD,RG,decide_eq_true_eq]at this;rw[this.2.2];rfl
  rw[List.eq_nil_iff_forall_not_mem];intro k hm;obtain⟨j,y,_,h2,_⟩:=ot.1 hm;simp[vU,hk,hl]at h2
theorem G8{N:Nat}(hN:dg<=N){l:List cd}(hb:eQ dA l<dg)(hw:wA l)(h:Ar l){i:Int}(h0:0<=i)(h9:i<=9):pX N l i=some (fx l i):=by
  obtain⟨q1,q2⟩:=h.at h0 h9;have hB:=h.wY
  have hi:dy i 0 9=true:=by rw[dI];omega
  unfold pX;simp only[pL hN hb hw,fu.2 h,pM,hi,q1,RB,RE,RC];cases hk:(nth l i).so==0
  · simp only[RC];unfold fx;rw[kQ l (vU l i) (fun k _=>(k:Int)) hB hN]
    · rfl
    · intro k t y hy hk ht;simp only[eD hk,RD,dQ,hy,RB,xt hN (JP (h.ok _ q2)),iI,gX,eL (Nat.lt_trans hk hB),gE ht (Nat.lt_of_le_of_lt hk hB)];unfold vU;cases decide ((k:Int)>0)
      · cases(nth l i).dk.contains (k:Int)<;>rfl
      cases y.so != 0
      · cases(nth l i).dk.contains (k:Int)<;>rfl
      cases y.box==i
      · cases(nth l i).dk.contains (k:Int)<;>rfl
      · cases((nth l i).so==1)<;>cases(nth l i).dk.contains (k:Int)<;>rfl
    · intro t;simp only[eE,RC]
  · rw[BL h h0 h9 (by simpa using hk)];rfl
inductive Reaches (l:List cd) (now:Int):Int->Prop
  | root:Reaches l now 0
  | step {i k:Int}:Reaches l now i->k∈fx l i->ey (nth l k) now=false->Reaches l now k
theorem Reaches.kT{l:List cd}{now:Int}(h:Ar l){k:Int}(hr:Reaches l now k):0<=k/\k<=9:=by
  cases hr with
  | root=>omega
  | step _ h2 _=>have:=jv h2;have:=h.len;omega
def sV:List Bool->Nat
  | []=>0
  | b::r=>(if b then 0 else 1)+sV r
theorem HA:∀{r:List Bool} {k:Nat},r[k]?=some false->sV (r.set k true)+1=sV r
  | b::r,0,h=>by simp at h;subst h;simp[sV];omega
  | b::r,k+1,h=>by
    have:=HA (r:=r) (k:=k) (by simpa using h);simp only[List.set_cons_succ,sV];omega
def ym(r q:List Bool):Prop:=∀k:Nat,r[k]?=some true->q[k]?=some true
theorem DV:∀{r q:List Bool},r.length=q.length->ym r q->sV r<=sV q->r=q
  | [],[],_,_,_=>rfl
  | b::r,c::q,hl,h,hc=>by
    have hl':r.length=q.length:=by simpa using hl
    have h':ym r q:=fun k hk=>by simpa using h (k+1) (by simpa using hk)
    have key:∀{r q:List Bool},r.length=q.length->ym r q->sV q<=sV r:=by
      intro r
      induction r with
      | nil=>intro q hl _;cases q with
        | nil=>exact Nat.le_refl _
        | cons=>simp at hl
      | cons b r ih =>
        intro q hl h
        cases q with
        | nil=>simp at hl
        | cons c q =>
          have:=ih (q:=q) (by simpa using hl) (fun k hk=>by simpa using h (k+1) (by simpa using hk));have h0:=h 0;simp at h0;simp only[sV];cases b<;>cases c<;>simp_all<;>omega
    have h0:=h 0;simp at h0;have:=key hl' h';simp only[sV]at hc;cases b<;>cases c
    · exact congrArg _ (DV hl' h' (by simpa using hc))
    · exfalso;simp at hc;omega
    · simp at h0
    · exact congrArg _ (DV hl' h' (by simpa using hc))
theorem Hc{r:List Bool}{k:Nat}:ym r (r.set k true):=fun j hj=>by
  rw[List.getElem?_set];split
  · rename_i e;subst e;rw[if_pos (eA hj)]
  · exact hj
theorem setAt{r:List Bool}{k j:Nat}(h:(r.set k true)[j]?=some true):j=k\/r[j]?=some true:=by
  rw[List.getElem?_set]at h;split at h
  · exact .inl (by omega)
  · exact .inr h
def wq(l:List cd)(now:Int)(r:List Bool)(y:Int):List Bool:=if ey (nth l y) now then r else r.set y.toNat true
def visit(l:List cd)(now:Int)(k:Nat)(r:List Bool)(o:cd):List Bool:=if !(nth r (k:Int)) || (ey o now&&decide ((k:Int)>0))then r else(fx l (k:Int)).foldl (wq l now) r
def uu(l:List cd)(now:Int)(r:List Bool):List Bool:=foldI (visit l now) 0 r l
def qi(l:List cd)(now:Int):Nat->List Bool->List Bool
  | 0,r=>r
  | n+1,r=>qi l now n (uu l now r)
def reach(l:List cd)(now:Int):List Bool:=if fT l then qi l now 10 ((List.replicate 10 false).set 0 true)else[]
theorem Ci(l:List cd)(now:Int)(r:List Bool)(y:Int):(wq l now r y).length=r.length:=by unfold wq;split<;>simp
theorem FI(l:List cd)(now:Int):∀(e:List Int) (r:List Bool),(e.foldl (wq l now) r).length=r.length
  | [],r=>rfl
  | y::e,r=>by rw[List.foldl_cons,FI l now e,Ci]
theorem wI(l:List cd)(now:Int)(k:Nat)(r:List Bool)(o:cd):(visit l now k r o).length=r.length:=by
  unfold visit;split
  · rfl
  · exact FI _ _ _ _
theorem Pr(l:List cd)(now:Int)(r:List Bool)(y:Int):ym r (wq l now r y):=by
  unfold wq;split
  · exact fun _ h=>h
  · exact Hc
theorem B4(l:List cd)(now:Int):∀(e:List Int) (r:List Bool),ym r (e.foldl (wq l now) r)
  | [],r=>fun _ h=>h
  | y::e,r=>fun k hk=>B4 l now e _ k (Pr l now r y k hk)
theorem E5(l:List cd)(now:Int)(k:Nat)(r:List Bool)(o:cd):ym r (visit l now k r o):=by
  unfold visit;split
  · exact fun _ h=>h
  · exact B4 _ _ _ _
theorem Er(l:List cd)(now:Int):∀(e:List Int) (r:List Bool),(∀y,y∈e->y.toNat<r.length)->∀y,y∈e->ey (nth l y) now=false->(e.foldl (wq l now) r)[y.toNat]?=some true
  | z::e,r,hr,y,hy,hx=>by
    rw[List.foldl_cons]
    rcases List.mem_cons.1 hy with rfl|hy
    · refine B4 l now e _ _ ?_;unfold wq;rw[if_neg (by simp[hx]),List.getElem?_set_self (hr y (by simp))]
    · exact Er l now e _ (fun x h=>by rw[Ci];exact hr x (by simp[h])) y hy hx
def ve(l:List cd)(now:Int)(r:List Bool):Prop:=∀k:Nat,r[k]?=some true->Reaches l now (k:Int)
theorem FK{l:List cd}{now i:Int}(hi:Reaches l now i):∀(e:List Int) (r:List Bool),(∀y,y∈e->y∈fx l i)->ve l now r->ve l now (e.foldl (wq l now) r)
  | [],r,_,h=>h
  | y::e,r,he,h=>by
    rw[List.foldl_cons];refine FK hi e _ (fun x hx=>he x (by simp[hx])) ?_;unfold wq;split
    · exact h
    · rename_i hx;intro k hk
      rcases setAt hk with q|q
      · have hy:=he y (by simp);have:=jv hy
        have e:(k:Int)=y:=by omega
        rw[e];exact .step hi hy (by simpa using hx)
      · exact h k q
theorem Ax{r:List Bool}{k:Nat}:nth r (k:Int)=true <-> r[k]?=some true:=by
  unfold nth;rw[Int.toNat_natCast]
  cases h:r[k]? with
  | none=>simp;try rfl
  | some b=>simp
theorem yY{l:List cd}{now:Int}{k:Nat}{r:List Bool}{o:cd}(h:ve l now r):ve l now (visit l now k r o):=by
  unfold visit;split
  · exact h
  · rename_i hc;simp only[Bool.or_eq_true,Bool.not_eq_true',not_or,Bool.not_eq_false]at hc;exact FK (h k (Ax.1 hc.1)) _ _ (fun _ hy=>hy) h
theorem w5{l:List cd}{now:Int}:∀(m:List cd) (k:Nat) (r:List Bool),ve l now r->(foldI (visit l now) k r m).length=r.length/\ym r (foldI (visit l now) k r m)/\ve l now (foldI (visit l now) k r m)
  | [],k,r,h=>⟨rfl,fun _ h=>h,h⟩
  | o::m,k,r,h=>by
    obtain⟨h1,h2,h3⟩:=w5 m (k+1) (visit l now k r o) (yY h);exact⟨by unfold foldI;rw[h1,wI],fun j hj=>h2 j (E5 l now k r o j hj),h3⟩
def yE(l:List cd)(now:Int)(r q:List Bool):Prop:=∀i:Nat,r[i]?=some true->∀y,y∈fx l (i:Int)->ey (nth l y) now=false->q[y.toNat]?=some true
theorem np{l:List cd}{now:Int}(h:Ar l){k:Int}(hr:Reaches l now k)(hk:k ≠ 0):ey (nth l k) now=false:=by
  cases hr with
  | root=>exact absurd rfl hk
  | step _ _ h3=>exact h3
theorem CA{l:List cd}{now:Int}(h:Ar l):∀(m:List cd) (k:Nat) (r q:List Bool),(∀j:Nat,m[j]?=l[k+j]?)->r.length=10->ve l now r->ym q r->∀i:Nat,k<=i->q[i]?=some true->∀y,y∈fx l (i:Int)->ey (nth l y) now=false->(foldI (visit l now) k r m)[y.toNat]?=some true
  | [],k,r,q,hm,hr,hs,hq,i,hi,hqi,y,hy,hx=>by
    have:=(hs i (hq i hqi)).kT h;have h2:=hm (i-k);rw[show k+(i-k)=i by omega]at h2;have:=h.len;rw[List.getElem?_eq_getElem (show i<l.length by omega)]at h2;simp at h2
  | o::m,k,r,q,hm,hr,hs,hq,i,hi,hqi,y,hy,hx=>by
    have ho:l[k]?=some o:=by have:=hm 0;simpa using this.symm
    unfold foldI
    rcases Nat.eq_or_lt_of_le hi with e|hlt
    · subst e;refine(w5 m (k+1) _ (yY hs)).2.1 _ ?_;have hk:nth r (k:Int)=true:=Ax.2 (hq k hqi)
      have hn:(ey o now&&decide ((k:Int)>0))=false:=by
        by_cases h0:k=0
        · subst h0;simp
        · have:=np h (hs k (hq k hqi)) (by omega);rw[nW ho]at this;simp[this]
      unfold visit;rw[if_neg (by rw[hk,hn];decide)];exact Er l now _ r (fun z hz=>by have:=jv hz;have:=h.len;omega) y hy hx
    · exact CA h m (k+1) (visit l now k r o) q (fun j=>by have:=hm (j+1);rw[show k+1+j=k+(j+1) by omega, <- this];rfl) (by rw[wI,hr]) (yY hs) (fun j hj=>E5 l now k r o j (hq j hj)) i hlt hqi y hy hx
theorem yj{l:List cd}{now:Int}(h:Ar l):∀(n:Nat) (r:List Bool),r.length=10->ve l now r->(qi l now n r).length=10/\ym r (qi l now n r)/\ve l now (qi l now n r)/\(sV r<n->yE l now (qi l now n r) (qi l now n r))
  | 0,r,hr,hs=>⟨hr,fun _ h=>h,hs,fun h=>by omega⟩
  | n+1,r,hr,hs=>by
    obtain⟨p1,p2,p3⟩:=w5 (l:=l) (now:=now) l 0 r hs;have p4:=fun i hi=>CA h l 0 r r (fun j=>by rw[Nat.zero_add]) hr hs (fun _ h=>h) i (Nat.zero_le _) hi;obtain⟨q1,q2,q3,q4⟩:=yj h n (uu l now r) (by unfold uu;rw[p1,hr]) p3;refine⟨q1,fun k hk=>q2 k (p2 k hk),q3,fun hc=>?_⟩
    by_cases hcl:sV (uu l now r)<n
    · exact q4 hcl
    · have e:r=uu l now r:=DV p1.symm p2 (by omega)
      have fix:∀m,qi l now m r=r:=by
        intro m
        induction m with
        | zero=>rfl
        | succ m ih=>unfold qi;rw[<- e,ih]
      rw[fix (n+1)];intro i hi y hy hx;have:=p4 i hi y hy hx
      rwa[show foldI (visit l now) 0 r l=r from e.symm]at this
def MK(l:List cd)(now:Int)(r:List Bool):Prop:=r.length=10/\∀k:Nat,r[k]?=some true <-> Reaches l now (k:Int)
theorem J2{l:List cd}{now:Int}(h:Ar l){r:List Bool}(hl:r.length=10)(hs:ve l now r)(h0:r[0]?=some true)(hc:yE l now r r):MK l now r:=by
  refine⟨hl,fun k=>⟨hs k,fun hr=>?_⟩⟩
  have key:∀j:Int,Reaches l now j->r[j.toNat]?=some true:=by
    intro j hj
    induction hj with
    | root=>exact h0
    | step h1 h2 h3 ih =>
      rename_i i k;have:=(Reaches.kT h h1);refine hc i.toNat ih k ?_ h3
      rwa[show((i.toNat:Nat):Int)=i by omega]
  simpa using key k hr
theorem PD{l:List cd}{now:Int}{r q:List Bool}(h1:MK l now r)(h2:MK l now q):r=q:=by
  apply List.ext_getElem? fun k=>?_
  rcases Nat.lt_or_ge k 10 with hk|hk
  · have e:r[k]?=some true <-> q[k]?=some true:=(h1.2 k).trans (h2.2 k).symm;rw[List.getElem?_eq_getElem (by rw[h1.1];exact hk),List.getElem?_eq_getElem (by rw[h2.1];exact hk)]at e⊢;generalize r[k]'(by rw[h1.1];exact hk)=a at *;generalize q[k]'(by rw[h2.1];exact hk)=b at *;cases a<;>cases b<;>simp_all
  · rw[List.getElem?_eq_none (by rw[h1.1];exact hk),List.getElem?_eq_none (by rw[h2.1];exact hk)]
theorem KN(l:List cd)(now:Int):ve l now ((List.replicate 10 false).set 0 true):=fun k hk=>by
  rcases setAt hk with q|q
  · subst q;exact .root
  · rw[List.getElem?_replicate]at q;split at q<;>simp at q
theorem vG{l:List cd}(h:Ar l)(now:Int):MK l now (reach l now):=by
  unfold reach;rw[if_pos (fu.2 h)];obtain⟨q1,q2,q3,q4⟩:=yj (now:=now) h 10 ((List.replicate 10 false).set 0 true) rfl (KN l now);exact J2 h q1 q3 (q2 0 rfl) (q4 (by decide))
theorem kU{l:List cd}(h:Ar l)(now:Int):(reach l now).length=10:=(vG h now).1
theorem yZ{l:List cd}{now:Int}:∀(m:List cd) (k:Nat) (r:List Bool),(foldI (visit l now) k r m).length=r.length
  | [],k,r=>rfl
  | o::m,k,r=>by unfold foldI;rw[yZ m,wI]
theorem NB{N:Nat}(hN:dg<=N){l:List cd}(h:Ar l){now:Int}{e:List Int}(he:∀y,y∈e->0<=y/\y<=9)(hl:e.length<=10){r:List Bool}(hr:r.length=10):
    iter (fun(s67:(List Bool)×Int)=>(bif(decide (s67.2<(e.length:Int)))then((idx e s67.2).bind fun y70=>(idx l y70).bind fun y83=>bif(!(ey y83 now))then((idx s67.1 y70).bind fun y104=>some (.inl (s67.1.set (y70:Int).toNat true,i64.wrap (s67.2+1))))else(some (.inl (s67.1,i64.wrap (s67.2+1)))))else(some (.inr (s67.1,s67.2))):Option (((List Bool)×Int)⊕((List Bool)×Int)))) N (r,0)=some (e.foldl (wq l now) r,(e.length:Int)):=by
  have hB:e.length<dg:=Nat.lt_of_le_of_lt hl (by decide)
  rw[show(r,(0:Int))=(fun(k:Nat) (t:List Bool)=>(t,(k:Int))) 0 r from rfl,
    gC e (fun(k:Nat) (t:List Bool)=>(t,(k:Int))) (fun _ t y=>wq l now t y) (fun t=>(t,(e.length:Int))) (fun _ t=>t.length=10) ?_ ?_ (Nat.lt_of_lt_of_le hB hN) hr,jC]
  · intro k t y hy hk ht;obtain⟨y0,y9⟩:=he y (List.mem_of_getElem? hy);refine⟨?_,by rw[Ci,ht]⟩;simp only[eD hk,RD,dQ,hy,RB,(h.at y0 y9).1,uF,eL (Nat.lt_trans hk hB),eU (l:=t) y0 (by omega)];unfold wq;cases ey (nth l y) now<;>rfl
  · intro t _;simp only[eE,RC]
theorem kz{l:List cd}(h:Ar l)(i:Int):(∀y,y∈fx l i->0<=y/\y<=9)/\(fx l i).length<=10:=by
  have:=h.len;refine⟨fun y hy=>by have:=jv hy;omega,by have:=Lc l i;omega⟩
theorem BP{N:Nat}(hN:dg<=N){l:List cd}(hb:eQ dA l<dg)(hw:wA l)(now:Int):pS N l now=some (reach l now):=by
  unfold pS reach;rw[pL hN hb hw,RB];cases ha:fT l
  · rfl
  have h:=fu.1 ha;have hB:=h.wY;simp only[RE,RC,if_true];rw[show mk Bool 10=some (List.replicate 10 false) from rfl];simp only[RB];rw[show idx (List.replicate 10 false) 0=some false from rfl];simp only[RB]
  have hin:∀r:List Bool,r.length=10->iter (fun(s21:(List Bool)×Int)=>(bif(decide (s21.2<(l.length:Int)))then(((idx s21.1 s21.2).bind fun y26=>bif(!y26)then(some true)else((idx l s21.2).bind fun y40=>(kt N y40 now).bind fun y58=>bif y58 then(some (decide (s21.2>0)))else(some false)):Option Bool).bind fun j24=>bif j24 then(some (.inl (s21.1,i64.wrap (s21.2+1))))else((pX N l s21.2).bind fun y63=>(iter (fun(s67:(List Bool)×Int)=>(bif(decide (s67.2<(y63.length:Int)))then((idx y63 s67.2).bind fun y70=>(idx l y70).bind fun y83=>(kt N y83 now).bind fun y101=>bif(!y101)then((idx s67.1 y70).bind fun y104=>some (.inl (s67.1.set (y70:Int).toNat true,i64.wrap (s67.2+1))))else(some (.inl (s67.1,i64.wrap (s67.2+1)))))else(some (.inr (s67.1,s67.2))):Option (((List Bool)×Int)⊕((List Bool)×Int)))) N (s21.1,0)).bind fun o111=>some (.inl (o111.1,i64.wrap (s21.2+1)))))else(some (.inr (s21.1,s21.2))):Option (((List Bool)×Int)⊕((List Bool)×Int)))) N (r,0)=some (uu l now r,(l.length:Int)):=by
    intro r hr
    rw[show(r,(0:Int))=(fun(k:Nat) (t:List Bool)=>(t,(k:Int))) 0 r from rfl,
      gC l (fun(k:Nat) (t:List Bool)=>(t,(k:Int))) (fun k t y=>visit l now k t y) (fun t=>(t,(l.length:Int))) (fun _ t=>t.length=10) ?_ ?_ (Nat.lt_of_lt_of_le hB hN) hr]
    · rfl
    · intro k t y hy hk ht
      have hk10:k<10:=by rw[<- h.len];exact hk
      refine⟨?_,by rw[wI,ht]⟩;simp only[eD hk,RD];rw[eU (l:=t) (i:=(k:Int)) (by omega) (by omega)];simp only[dQ,hy,RB,uF,eL (Nat.lt_trans hk hB)];rw[G8 hN hb hw h (i:=(k:Int)) (by omega) (by omega),RB,NB hN h (kz h _).1 (kz h _).2 ht];unfold visit;cases nth t (k:Int)<;>cases ey y now<;>cases decide ((k:Int)>0)<;>rfl
    · intro t _;simp only[eE,RC]
  have hout:∀(n:Nat) (j:Nat) (r:List Bool),r.length=10->foldI (fun _ t (_:Unit)=>uu l now t) j r (List.replicate n ())=qi l now n r:=by
    intro n
    induction n with
    | zero=>intro j r _;rfl
    | succ n ih=>intro j r hr;rw[List.replicate_succ];unfold foldI qi;exact ih _ _ (by
        have:=yZ (l:=l) (now:=now) l 0 r
        unfold uu;rw[this,hr])
  rw[show(((List.replicate 10 false).set (0:Int).toNat true,(0:Int)):List Bool×Int)=(fun(k:Nat) (t:List Bool)=>(t,(k:Int))) 0 ((List.replicate 10 false).set 0 true) from rfl,
    gC (List.replicate 10 ()) (fun(k:Nat) (t:List Bool)=>(t,(k:Int))) (fun _ t _=>uu l now t) (fun t=>(t,(10:Int))) (fun _ t=>t.length=10) ?_ ?_ (Ou (k:=0) hN (by decide)) rfl,hout 10 0 _ rfl]
  · rfl
  · intro k t y hy hk ht
    have hk:k<10:=by simpa using hk
    refine⟨?_,by have:=yZ (l:=l) (now:=now) l 0 t;unfold uu;rw[this,ht]⟩
    have h3:decide ((k:Int)<10)=true:=by simp;omega
    simp only[h3,RD];rw[hin t ht];simp only[RB,eL (show k<dg from Nat.lt_trans hk (by decide))]
  · intro t _;rfl
def push(l:List cd)(now:Int)(s:List Bool×List Int)(y:Int):List Bool×List Int:=if !(nth s.1 y)&&!ey (nth l y) now then(s.1.set y.toNat true,s.2++[y])else s
theorem yO{r:List Bool}{y:Int}(h0:0<=y):nth r y=true <-> r[y.toNat]?=some true:=by
  have:=Ax (r:=r) (k:=y.toNat)
  rwa[show((y.toNat:Nat):Int)=y by omega]at this
theorem xS{l:List cd}{now i:Int}(hi:Reaches l now i):∀(e:List Int) (s:List Bool×List Int),(∀y,y∈e->y∈fx l i/\0<=y/\y<=9)->s.1.length=10->ve l now s.1 ->
    let z:=e.foldl (push l now) s
    z.1.length=10/\ve l now z.1/\ym s.1 z.1/\z.2.length+sV z.1=s.2.length+sV s.1/\(∀y,y∈e->ey (nth l y) now=false->z.1[y.toNat]?=some true)/\(∀y,y∈s.2->y∈z.2) /\
      (∀y,y∈z.2->y∈s.2\/(0<=y/\z.1[y.toNat]?=some true))/\(∀k:Nat,z.1[k]?=some true->s.1[k]?=some true\/(k:Int)∈z.2)
  | [],s,_,h1,h2=>⟨h1,h2,fun _ h=>h,rfl,fun _ h=>absurd h (by simp),fun _ h=>h,fun _ h=>.inl h,fun _ h=>.inl h⟩
  | y::e,s,he,h1,h2=>by
    obtain⟨e1,e2,e3⟩:=he y (by simp)
    have hlt:y.toNat<s.1.length:=by omega
    simp only[List.foldl_cons]
    by_cases hc:(!(nth s.1 y)&&!ey (nth l y) now)=true
    · have hp:push l now s y=(s.1.set y.toNat true,s.2++[y]):=by unfold push;rw[if_pos hc]
      simp only[RG,Bool.not_eq_true']at hc
      have hf:s.1[y.toNat]?=some false:=by
        have:¬ s.1[y.toNat]?=some true:=fun q=>by rw[(yO e2).2 q]at hc;simp at hc
        rw[List.getElem?_eq_getElem hlt]at this⊢;cases hb:s.1[y.toNat]<;>simp_all
      have hs:ve l now (s.1.set y.toNat true):=fun k hk=>by
        rcases setAt hk with q|q
        · have e:(k:Int)=y:=by omega
          rw[e];exact .step hi e1 hc.2
        · exact h2 k q
      rw[hp];obtain⟨a1,a2,a3,a4,a5,a6,a7,a8⟩:=xS hi e (s.1.set y.toNat true,s.2++[y]) (fun x hx=>he x (by simp[hx])) (by simpa using h1) hs;have hy:(e.foldl (push l now) (s.1.set y.toNat true,s.2++[y])).1[y.toNat]?=some true:=a3 _ (List.getElem?_set_self hlt);refine⟨a1,a2,fun k hk=>a3 k (Hc k hk),?_,fun x hx hxx=>?_,fun x hx=>a6 x (by simp[hx]),fun x hx=>?_,fun k hk=>?_⟩
      · have:=HA hf;simp only[List.length_append,List.length_cons,List.length_nil]at a4;omega
      · rcases List.mem_cons.1 hx with rfl|hx
        · exact hy
        · exact a5 x hx hxx
      · rcases a7 x hx with q|q
        · rcases List.mem_append.1 q with q|q
          · exact .inl q
          · simp at q;subst q;exact .inr ⟨e2,hy⟩
        · exact .inr q
      · rcases a8 k hk with q|q
        · rcases setAt q with q|q
          · refine .inr (a6 (k:Int) ?_)
            have e:(k:Int)=y:=by omega
            simp[e]
          · exact .inl q
        · exact .inr q
    · have hp:push l now s y=s:=by unfold push;rw[if_neg hc]
      rw[hp];obtain⟨a1,a2,a3,a4,a5,a6,a7,a8⟩:=xS hi e s (fun x hx=>he x (by simp[hx])) h1 h2;refine⟨a1,a2,a3,a4,fun x hx hxx=>?_,a6,a7,a8⟩
      rcases List.mem_cons.1 hx with rfl|hx
      · refine a3 _ ((yO e2).1 ?_);cases hn:nth s.1 x
        · exact absurd (show(!(nth s.1 x)&&!ey (nth l x) now)=true by simp[hn,hxx]) hc
        · rfl
      · exact a5 x hx hxx
theorem CX(l:List cd)(now:Int):∀(e:List Int) (s:List Bool×List Int),s.2.length<=(e.foldl (push l now) s).2.length
  | [],s=>Nat.le_refl _
  | y::e,s=>by
    rw[List.foldl_cons];refine Nat.le_trans ?_ (CX l now e _);unfold push;split<;>simp
theorem L0{N:Nat}(hN:dg<=N){l:List cd}(h:Ar l){now:Int}{e:List Int}(he:∀y,y∈e->0<=y/\y<=9)(hl:e.length<=10){r:List Bool}(hr:r.length=10){t:List Int}(ht:t.length<=100):
    iter (fun(s45:(List Bool)×(List Int)×Int)=>(bif(decide (s45.2.2<(e.length:Int)))then((idx e s45.2.2).bind fun y48=>((idx s45.1 y48).bind fun y63=>bif(!y63)then((idx l y48).bind fun y77=>(ll N y77 now).bind fun y95=>some (!y95))else(some false):Option Bool).bind fun j61=>bif j61 then((idx s45.1 y48).bind fun y99=>(app s45.2.1 [y48]).bind fun y106=>some (.inl (s45.1.set (y48:Int).toNat true,y106,i64.wrap (s45.2.2+1))))else(some (.inl (s45.1,s45.2.1,i64.wrap (s45.2.2+1)))))else(some (.inr (s45.1,s45.2.1,s45.2.2))):Option (((List Bool)×(List Int)×Int)⊕((List Bool)×(List Int)×Int)))) N (r,t,0) =
      some ((e.foldl (push l now) (r,t)).1,(e.foldl (push l now) (r,t)).2,(e.length:Int)):=by
  have hB:e.length<dg:=Nat.lt_of_le_of_lt hl (by decide)
  rw[show(r,t,(0:Int))=(fun(k:Nat) (s:List Bool×List Int)=>(s.1,s.2,(k:Int))) 0 (r,t) from rfl,
    gC e (fun(k:Nat) (s:List Bool×List Int)=>(s.1,s.2,(k:Int))) (fun _ s y=>push l now s y) (fun s=>(s.1,s.2,(e.length:Int))) (fun k s=>s.1.length=10/\s.2.length<=100+k) ?_ ?_ (Nat.lt_of_lt_of_le hB hN) ⟨hr,ht⟩,jC]
  · intro k s y hy hk ⟨i1,i2⟩;obtain⟨y0,y9⟩:=he y (List.mem_of_getElem? hy)
    refine⟨?_,by
      unfold push;split
      · simp only[List.length_set,List.length_append,List.length_cons,List.length_nil];omega
      · omega⟩
    have hkB:100+k+1<dg:=by have:(16777216:Nat)=dg:=rfl;omega
    simp only[eD hk,RD,dQ,hy,RB,(h.at y0 y9).1,wE,eL (Nat.lt_trans hk hB),eU (l:=s.1) y0 (by omega),gE i2 hkB,iI];unfold push;cases(!(nth s.1 y)&&!ey (nth l y) now)<;>rfl
  · intro s _;simp only[eE,RC]
theorem Hj{N:Nat}(hN:dg<=N){l:List cd}(hb:eQ dA l<dg)(now:Int):sJ N l now=some (reach l now):=by
  unfold sJ;rw[uK hN hb,RB];cases ha:fT l
  · unfold reach;rw[ha];rfl
  have h:=fu.1 ha;simp only[RE,RC];rw[show mk Bool 10=some (List.replicate 10 false) from rfl];simp only[RB];rw[show idx (List.replicate 10 false) 0=some false from rfl];simp only[RB]
  obtain⟨z,hz,hz1,hz2,hz3,hz4⟩:=EJ (body:=fun(s18:(List Bool)×(List Int))=>(bif(decide ((s18.2.length:Int)>0))then((idx s18.2 0).bind fun y21=>(sub s18.2 1 (s18.2.length:Int)).bind fun y34=>(nF N l y21).bind fun y41=>(iter (fun(s45:(List Bool)×(List Int)×Int)=>(bif(decide (s45.2.2<(y41.length:Int)))then((idx y41 s45.2.2).bind fun y48=>((idx s45.1 y48).bind fun y63=>bif(!y63)then((idx l y48).bind fun y77=>(ll N y77 now).bind fun y95=>some (!y95))else(some false):Option Bool).bind fun j61=>bif j61 then((idx s45.1 y48).bind fun y99=>(app s45.2.1 [y48]).bind fun y106=>some (.inl (s45.1.set (y48:Int).toNat true,y106,i64.wrap (s45.2.2+1))))else(some (.inl (s45.1,s45.2.1,i64.wrap (s45.2.2+1)))))else(some (.inr (s45.1,s45.2.1,s45.2.2))):Option (((List Bool)×(List Int)×Int)⊕((List Bool)×(List Int)×Int)))) N (s18.1,y34,0)).bind fun o111=>some (.inl (o111.1,o111.2.1)))else(some (.inr (s18.1,s18.2))):Option (((List Bool)×(List Int))⊕((List Bool)×(List Int)))))
    (fun s=>s.2.length+2*sV s.1)
    (fun s=>s.1.length=10/\ve l now s.1/\s.1[0]?=some true/\s.2.length+sV s.1<=10/\(∀y,y∈s.2->0<=y/\s.1[y.toNat]?=some true)/\∀i:Nat,s.1[i]?=some true->(i:Int)∈s.2\/∀y,y∈fx l (i:Int)->ey (nth l y) now=false->s.1[y.toNat]?=some true)
    (fun s=>s.1.length=10/\ve l now s.1/\s.1[0]?=some true/\yE l now s.1 s.1)
    (fun s hI=>by
      obtain⟨r,t⟩:=s;obtain⟨i1,i2,i3,i4,i5,i6⟩:=hI;simp only at i1 i2 i3 i4 i5 i6
      cases t with
      | nil=>exact .inr ⟨(r,[]),rfl,i1,i2,i3,fun i hi=>by have:=i6 i hi;simpa using this⟩
      | cons x t =>
        left;obtain⟨x0,xr⟩:=i5 x (by simp)
        have hx:Reaches l now x:=by have:=i2 x.toNat xr;rwa[show((x.toNat:Nat):Int)=x by omega]at this
        obtain⟨_,x9⟩:=hx.kT h
        have hsub:sub (x::t) 1 ((x::t).length:Int)=some t:=by
          unfold sub;rw[if_pos ⟨by omega,by simp only[List.length_cons];omega,Int.le_refl _⟩];simp
        obtain⟨e1,e2⟩:=kz h x
        have hpos:decide (((x::t).length:Int)>0)=true:=by simp
        obtain⟨a1,a2,a3,a4,a5,a6,a7,a8⟩:=xS hx (fx l x) (r,t) (fun y hy=>⟨hy,e1 y hy⟩) i1 i2;simp only[List.length_cons]at i4;refine⟨(fx l x).foldl (push l now) (r,t),?_,⟨a1,a2,a3 0 i3,by simp only at a4;omega,fun y hy=>?_,fun i hi=>?_⟩,?_⟩
        · simp only[hpos,RD];rw[show idx (x::t) 0=some x from rfl];simp only[RB,hsub];rw[CH hN h x0 x9,RB,L0 hN h e1 e2 i1 (by omega)];rfl
        · rcases a7 y hy with q|q
          · obtain⟨q1,q2⟩:=i5 y (by simp[show y∈t from q]);exact⟨q1,a3 _ q2⟩
          · exact q
        · rcases a8 i hi with q|q
          · rcases i6 i q with q|q
            · rcases List.mem_cons.1 q with q|q
              · rw[q];exact .inr a5
              · exact .inl (a6 _ q)
            · exact .inr fun y hy hyx=>a3 _ (q y hy hyx)
          · exact .inl q
        · simp only[List.length_cons]at a4⊢
          have hle:sV ((fx l x).foldl (push l now) (r,t)).1<=sV r:=by
            have:t.length<=((fx l x).foldl (push l now) (r,t)).2.length:=CX l now (fx l x) (r,t);omega
          omega)
    N ((List.replicate 10 false).set 0 true,[0]) ⟨rfl,KN l now,rfl,by decide,fun y hy=>by simp at hy;subst hy;exact⟨by decide,rfl⟩,fun i hi=>by
      rcases setAt hi with q|q
      · subst q;exact .inl (by simp)
      · rw[List.getElem?_replicate]at q;split at q<;>simp at q⟩ (by have:16777216<=N:=hN;simp only[show sV ((List.replicate 10 false).set 0 true)=9 from rfl,List.length_cons,List.length_nil];omega)
  rw[show((List.replicate 10 false).set (0:Int).toNat true)=(List.replicate 10 false).set 0 true from rfl,hz,RB];exact congrArg some (PD (J2 h hz1 hz2 hz3 hz4) (vG h now))
theorem lH{h:df}(q:fW h=true):Ar h.ag:=by
  unfold fW at q;simp only[RG]at q;exact fu.1 q.1
def threads(p:bh)(now:Int):List Int:=if dJ p then jd (fun k b=>b&&((nth p.heap.ag (k:Int)).so==4)) (fun k _=>(k:Int)) 0 (reach p.heap.ag now)else[]
theorem eX{p:bh}(h:dJ p=true):Ar p.heap.ag:=by
  unfold dJ fW at h;simp only[RG]at h;exact fu.1 h.2.2.2.1.1
theorem lk{p:bh}{now k:Int}(h:k∈threads p now):dJ p=true/\0<=k/\k<=9:=by
  unfold threads at h;split at h
  · rename_i hp;obtain⟨j,b,h1,_,h3⟩:=ot.1 h;have:=eA h1;rw[kU (eX hp)]at this;have h3:k=((0+j:Nat):Int):=h3;exact⟨hp,by omega,by omega⟩
  · simp at h
theorem Aj{N:Nat}(hN:dg<=N){l:List cd}(h:Ar l){now:Int}{body:List Int×Int->Option ((List Int×Int)⊕(List Int×Int))}
    (hs:∀(k:Nat) (t:List Int) (b:Bool),(reach l now)[k]?=some b->k<10->t.length<=k->body (t,(k:Int))=some (.inl (if b&&((nth l (k:Int)).so==4)then t++[(k:Int)]else t,((k+1:Nat):Int))))
    (he:∀t,body (t,10)=some (.inr (t,10))):iter body N ([],0)=some (jd (fun k b=>b&&((nth l (k:Int)).so==4)) (fun k _=>(k:Int)) 0 (reach l now),10):=by
  have hl:=kU h now
  have e:((reach l now).length:Int)=10:=by omega
  rw[kQ (reach l now) (fun k b=>b&&((nth l (k:Int)).so==4)) (fun k _=>(k:Int)) (by rw[hl];decide) hN,e]
  · intro k t b hb hk ht;exact hs k t b hb (by omega) ht
  · intro t;rw[e];exact he t
theorem yk{N:Nat}(hN:dg<=N){p:bh}(hb:dH p<dg)(now:Int):nA N p now=some (threads p now):=by
  unfold nA threads;rw[sv hN hb,RB];cases hp:dJ p
  · rfl
  have h:=eX hp;have hl:=kU h now;simp only[RE,RC,Hj hN (gO hb).2.2.2.1,RB,if_true];rw[Aj hN h]
  · rfl
  · intro k t b hy hk ht
    have hd:decide ((k:Int)<((reach p.heap.ag now).length:Int))=true:=by simp;omega
    simp only[hd,RD];rw[(h.at (i:=(k:Int)) (by omega) (by omega)).1];simp only[dQ,hy,RB,iI,eL (show k<dg from Nat.lt_trans hk (by decide)),gE ht (show k+1<dg from Nat.lt_trans (Nat.succ_lt_succ hk) (by decide))];cases(b&&((nth p.heap.ag (k:Int)).so==4))<;>rfl
  · intro t;simp only[hl];rfl
theorem wo{N:Nat}(hN:dg<=N){p:bh}(hb:dH p<dg)(hw:wP p)(now:Int):ml N p now=some (threads p now):=by
  unfold ml threads;rw[sr hN hb hw,RB];cases hp:dJ p
  · rfl
  have h:=eX hp;have hl:=kU h now;simp only[RE,RC,BP hN (gO hb).2.2.2.1 hw,RB,if_true];rw[Aj hN h]
  · rfl
  · intro k t b hy hk ht
    have hd:decide ((k:Int)<((reach p.heap.ag now).length:Int))=true:=by simp;omega
    simp only[hd,RD];rw[(h.at (i:=(k:Int)) (by omega) (by omega)).1];simp only[dQ,hy,RB,iI,eL (show k<dg from Nat.lt_trans hk (by decide)),gE ht (show k+1<dg from Nat.lt_trans (Nat.succ_lt_succ hk) (by decide))];cases(b&&((nth p.heap.ag (k:Int)).so==4))<;>rfl
  · intro t;simp only[hl];rfl
theorem pA(p:bh)(now:Int):(threads p now).length<dg:=by
  unfold threads;split
  · rename_i hp;refine Nat.lt_of_le_of_lt (uI _ _ _ _) ?_;rw[kU (eX hp)];decide
  · decide
def iX(p:bh)(now:Int)(th:Int):Bool:=(threads p now).contains th&&((nth p.heap.ag th).Ro==0)
theorem C8{N:Nat}(hN:dg<=N){p:bh}(hb:dH p<dg)(now th:Int):pE N p now th=some (iX p now th):=by
  unfold pE iX;simp only[yk hN hb,RB,tR hN (pA p now)];cases hc:(threads p now).contains th
  · rfl
  · obtain⟨h1,h2,h3⟩:=lk (List.contains_iff_mem.1 hc);simp only[RD,((eX h1).at h2 h3).1,RB,RF]
theorem CO{N:Nat}(hN:dg<=N){p:bh}(hb:dH p<dg)(hw:wP p)(now th:Int):o5 N p now th=some (iX p now th):=by
  unfold o5 iX;simp only[wo hN hb hw,RB,xt hN (pA p now)];cases hc:(threads p now).contains th
  · rfl
  · obtain⟨h1,h2,h3⟩:=lk (List.contains_iff_mem.1 hc);simp only[RD,((eX h1).at h2 h3).1,RB,RF]
end Go.Kx
