import Derived.Test.YtfmfgnhbgcjajaaGreatLSame
namespace Go.Kx
open Go
open Go.IntKind (i64)
set_option linter.unusedVariables false
set_option linter.unusedSimpArgs false
set_option maxRecDepth 10000
theorem EE{σ ρ:Type}{body:σ->Option (σ⊕ρ)}(μ:σ->Nat)(I:σ->Prop)(Q:ρ->Prop)(h:∀s,I s->(∃s',body s=some (.inl s')/\I s'/\μ s'<μ s)\/∃r,body s=some (.inr r)/\Q r):∀(N:Nat) (s:σ),I s->μ s<N->∃r,iter body N s=some r/\Q r
  | 0,s,_,hN=>by omega
  | N+1,s,hI,hN=>by
    unfold iter
    rcases h s hI with⟨s',h1,h2,h3⟩|⟨r,h1,h2⟩
    · rw[h1];exact EE μ I Q h N s' h2 (by omega)
    · rw[h1];exact⟨r,rfl,h2⟩
theorem sP{α β:Type}{p:Nat->α->Bool}{h:Nat->α->β}{z:β}:∀{l:List α} {k:Nat},z∈jj p h k l <-> ∃(i:Nat) (y:α),l[i]?=some y/\p (k+i) y=true/\z=h (k+i) y
  | [],k=>by simp[jj]
  | y::l,k=>by
    have ih:=sP (p:=p) (h:=h) (z:=z) (l:=l) (k:=k+1)
    have key:(∃(i:Nat) (x:α),(y::l)[i]?=some x/\p (k+i) x=true/\z=h (k+i) x) <-> (p k y=true/\z=h k y)\/z∈jj p h (k+1) l:=by
      rw[ih];constructor
      · rintro⟨i,x,h1,h2,h3⟩
        cases i with
        | zero=>simp at h1;subst h1;exact .inl ⟨h2,h3⟩
        | succ i=>exact .inr ⟨i,x,by simpa using h1,by rwa[show k+1+i=k+(i+1) by omega],by rwa[show k+1+i=k+(i+1) by omega]⟩
      · rintro(⟨h2,h3⟩|⟨i,x,h1,h2,h3⟩)
        · exact⟨0,y,rfl,h2,h3⟩
        · exact⟨i+1,x,by simpa using h1,by rwa[show k+(i+1)=k+1+i by omega],by rwa[show k+(i+1)=k+1+i by omega]⟩
    rw[key,show jj p h k (y::l)=if p k y then h k y::jj p h (k+1) l else jj p h (k+1) l from rfl];cases hp:p k y<;>simp
structure Ar (l:List c6):Prop where
  len:l.length=10
  sm:(nth l 0).so=1
  yV:(nth l 0).box=-1
  yJ:(nth l 0).dX=1000000
  ok:∀o,o∈l->eG o=true
  dp:∀o,o∈l->∀y,y∈o.dp->0<=y->(nth l y).so ≠ 0
  box:∀(k:Nat) (o:c6),l[k]?=some o->0<k->o.so ≠ 0->0<=o.box->(nth l o.box).so ≠ 0
theorem IC{l:List c6}{k:Nat}{o:c6}:tP l k o=true <-> eG o=true/\(0<k->o.so ≠ 0->0<=o.box->(nth l o.box).so ≠ 0)/\∀y,y∈o.dp->0<=y->(nth l y).so ≠ 0:=by
  unfold tP vV uy;simp only[RD,List.all_eq_true,Bool.not_eq_true',Bool.and_eq_false_iff,decide_eq_false_iff_not,bne_eq_false_iff_eq,beq_eq_false_iff_ne,ne_eq];constructor
  · rintro⟨⟨h1,h2⟩,h3⟩;refine⟨h1,fun a b c=>?_,fun y hy h0=>?_⟩
    · rcases h2 with q|q|q|q
      · omega
      · exact absurd q b
      · omega
      · exact q
    · rcases h3 y hy with q|q
      · omega
      · exact q
  · rintro⟨h1,h2,h3⟩;refine⟨⟨h1,?_⟩,fun y hy=>?_⟩
    · by_cases a:0<k
      · by_cases b:o.so=0
        · exact .inr (.inl b)
        · by_cases c:0<=o.box
          · exact .inr (.inr (.inr (h2 a b c)))
          · exact .inr (.inr (.inl (by omega)))
      · exact .inl (by omega)
    · by_cases c:0<=y
      · exact .inr (h3 y hy c)
      · exact .inl (by omega)
theorem fO{l:List c6}:gC l=true <-> Ar l:=by
  unfold gC vn;simp only[RD,Bool.not_eq_true',bne_eq_false_iff_eq,Bool.or_eq_false_iff,jI,Nat.zero_add,IC];constructor
  · rintro⟨h1,⟨h2,h3,h4⟩,h5⟩;have hm:∀o,o∈l->∃k:Nat,l[k]?=some o:=fun o ho=>List.getElem?_of_mem ho;refine⟨by omega,h2,h3,h4,fun o ho=>?_,fun o ho=>?_,fun k o hk=>?_⟩
    · obtain⟨k,hk⟩:=hm o ho;exact(h5 k o hk).1
    · obtain⟨k,hk⟩:=hm o ho;exact(h5 k o hk).2.2
    · exact(h5 k o hk).2.1
  · intro h;refine⟨by have:=h.len;omega,⟨h.sm,h.yV,h.yJ⟩,fun i y hy=>⟨h.ok y (List.mem_of_getElem? hy),h.box i y hy,h.dp y (List.mem_of_getElem? hy)⟩⟩
theorem Ar.at{l:List c6}(h:Ar l){i:Int}(h0:0<=i)(h9:i<=9):idx l i=some (nth l i)/\nth l i∈l:=⟨eP h0 (by have:=h.len;omega),gJ h0 (by have:=h.len;omega)⟩
theorem Ar.uX{l:List c6}(h:Ar l):l.length<dh:=by rw[h.len];decide
def ep(o:c6)(now:Int):Bool:=bif o.so==0 then true else decide (o.dX<now)
theorem wz(N:Nat)(o:c6)(now:Int):la N o now=some (ep o now):=oy _ _ _
theorem uV(N:Nat)(o:c6)(now:Int):ks N o now=some (ep o now):=oy _ _ _
theorem ya{o:c6}{now:Int}(h:ep o now=false):o.so ≠ 0:=by
  intro q;unfold ep at h;simp[q]at h
def vC(l:List c6)(i:Int)(k:Nat)(y:c6):Bool:=(decide ((k:Int)>0)&&(y.so != 0&&((y.box==i)&&((nth l i).so==1)))) || (nth l i).dp.contains (k:Int)
def eY(l:List c6)(i:Int):List Int:=jj (vC l i) (fun k _=>(k:Int)) 0 l
theorem KI{o:c6}(h:eG o=true):o.dp.length<dh:=Nat.lt_of_le_of_lt (pF h).1 (by decide)
theorem jw{l:List c6}{i k:Int}(h:k∈eY l i):0<=k/\k<(l.length:Int):=by
  obtain⟨j,y,h1,_,h3⟩:=sP.1 h;have:=eJ h1;have h3:k=((0+j:Nat):Int):=h3;omega
theorem Kn(l:List c6)(i:Int):(eY l i).length<=l.length:=wF _ _ _ _
theorem ym{N:Nat}(hN:dh<=N){l:List c6}(h:Ar l){i:Int}(h0:0<=i)(h9:i<=9):ml N l i=some (eY l i):=by
  obtain⟨q1,q2⟩:=h.at h0 h9;have hB:=h.uX;unfold ml eY;rw[m7 l (vC l i) (fun k _=>(k:Int)) hB hN]
  · rfl
  · intro k t y hy hk ht;simp only[ey hk,RA,dN,hy,Ry,q1,re hN (KI (h.ok _ q2)),iK,gW,eD (Nat.lt_trans hk hB),hY ht (Nat.lt_of_le_of_lt hk hB)]
    show(bif vC l i k y then _ else _)=_
    cases vC l i k y<;>rfl
  · intro t;simp only[er,Rz]
theorem Ij{l:List c6}(h:Ar l){i:Int}(h0:0<=i)(h9:i<=9)(hk:(nth l i).so=0):eY l i=[]:=by
  obtain⟨_,q2⟩:=h.at h0 h9
  have hl:(nth l i).dp=[]:=by
    have:=h.ok _ q2;unfold eG at this;simp only[hk,beq_self_eq_true,RA,RD,decide_eq_true_eq]at this;rw[this.2.2];rfl
  rw[List.eq_nil_iff_forall_not_mem];intro k hm;obtain⟨j,y,_,h2,_⟩:=sP.1 hm;simp[vC,hk,hl]at h2
theorem BY{N:Nat}(hN:dh<=N){l:List c6}(hb:eK dA l<dh)(hw:wA l)(h:Ar l){i:Int}(h0:0<=i)(h9:i<=9):ot N l i=some (eY l i):=by
  obtain⟨q1,q2⟩:=h.at h0 h9;have hB:=h.uX
  have hi:dy i 0 9=true:=by rw[dM];omega
  unfold ot;simp only[qF hN hb hw,fO.2 h,qc,hi,q1,Ry,RB,Rz];cases hk:(nth l i).so==0
  · simp only[Rz];unfold eY;rw[m7 l (vC l i) (fun k _=>(k:Int)) hB hN]
    · rfl
    · intro k t y hy hk ht;simp only[ey hk,RA,dN,hy,Ry,vt hN (KI (h.ok _ q2)),iK,gW,eD (Nat.lt_trans hk hB),hY ht (Nat.lt_of_le_of_lt hk hB)];unfold vC;cases decide ((k:Int)>0)
      · cases(nth l i).dp.contains (k:Int)<;>rfl
      cases y.so != 0
      · cases(nth l i).dp.contains (k:Int)<;>rfl
      cases y.box==i
      · cases(nth l i).dp.contains (k:Int)<;>rfl
      · cases((nth l i).so==1)<;>cases(nth l i).dp.contains (k:Int)<;>rfl
    · intro t;simp only[er,Rz]
  · rw[Ij h h0 h9 (by simpa using hk)];rfl
inductive Reaches (l:List c6) (now:Int):Int->Prop
  | root:Reaches l now 0
  | step {i k:Int}:Reaches l now i->k∈eY l i->ep (nth l k) now=false->Reaches l now k
theorem Reaches.kH{l:List c6}{now:Int}(h:Ar l){k:Int}(hr:Reaches l now k):0<=k/\k<=9:=by
  cases hr with
  | root=>omega
  | step _ h2 _=>have:=jw h2;have:=h.len;omega
def sK:List Bool->Nat
  | []=>0
  | b::r=>(if b then 0 else 1)+sK r
theorem Hc:∀{r:List Bool} {k:Nat},r[k]?=some false->sK (r.set k true)+1=sK r
  | b::r,0,h=>by simp at h;subst h;simp[sK];omega
  | b::r,k+1,h=>by
    have:=Hc (r:=r) (k:=k) (by simpa using h);simp only[List.set_cons_succ,sK];omega
def yA(r q:List Bool):Prop:=∀k:Nat,r[k]?=some true->q[k]?=some true
theorem Ft:∀{r q:List Bool},r.length=q.length->yA r q->sK r<=sK q->r=q
  | [],[],_,_,_=>rfl
  | b::r,c::q,hl,h,hc=>by
    have hl':r.length=q.length:=by simpa using hl
    have h':yA r q:=fun k hk=>by simpa using h (k+1) (by simpa using hk)
    have key:∀{r q:List Bool},r.length=q.length->yA r q->sK q<=sK r:=by
      intro r
      induction r with
      | nil=>intro q hl _;cases q with
        | nil=>exact Nat.le_refl _
        | cons=>simp at hl
      | cons b r ih =>
        intro q hl h
        cases q with
        | nil=>simp at hl
        | cons c q =>
          have:=ih (q:=q) (by simpa using hl) (fun k hk=>by simpa using h (k+1) (by simpa using hk));have h0:=h 0;simp at h0;simp only[sK];cases b<;>cases c<;>simp_all<;>omega
    have h0:=h 0;simp at h0;have:=key hl' h';simp only[sK]at hc;cases b<;>cases c
    · exact congrArg _ (Ft hl' h' (by simpa using hc))
    · exfalso;simp at hc;omega
    · simp at h0
    · exact congrArg _ (Ft hl' h' (by simpa using hc))
theorem G6{r:List Bool}{k:Nat}:yA r (r.set k true):=fun j hj=>by
  rw[List.getElem?_set];split
  · rename_i e;subst e;rw[if_pos (eJ hj)]
  · exact hj
theorem setAt{r:List Bool}{k j:Nat}(h:(r.set k true)[j]?=some true):j=k\/r[j]?=some true:=by
  rw[List.getElem?_set]at h;split at h
  · exact .inl (by omega)
  · exact .inr h
def wB(l:List c6)(now:Int)(r:List Bool)(y:Int):List Bool:=if ep (nth l y) now then r else r.set y.toNat true
def visit(l:List c6)(now:Int)(k:Nat)(r:List Bool)(o:c6):List Bool:=if !(nth r (k:Int)) || (ep o now&&decide ((k:Int)>0))then r else(eY l (k:Int)).foldl (wB l now) r
def ui(l:List c6)(now:Int)(r:List Bool):List Bool:=foldI (visit l now) 0 r l
def qb(l:List c6)(now:Int):Nat->List Bool->List Bool
  | 0,r=>r
  | n+1,r=>qb l now n (ui l now r)
def reach(l:List c6)(now:Int):List Bool:=if gC l then qb l now 10 ((List.replicate 10 false).set 0 true)else[]
theorem BQ(l:List c6)(now:Int)(r:List Bool)(y:Int):(wB l now r y).length=r.length:=by unfold wB;split<;>simp
theorem Ea(l:List c6)(now:Int):∀(e:List Int) (r:List Bool),(e.foldl (wB l now) r).length=r.length
  | [],r=>rfl
  | y::e,r=>by rw[List.foldl_cons,Ea l now e,BQ]
theorem wD(l:List c6)(now:Int)(k:Nat)(r:List Bool)(o:c6):(visit l now k r o).length=r.length:=by
  unfold visit;split
  · rfl
  · exact Ea _ _ _ _
theorem PF(l:List c6)(now:Int)(r:List Bool)(y:Int):yA r (wB l now r y):=by
  unfold wB;split
  · exact fun _ h=>h
  · exact G6
theorem Bs(l:List c6)(now:Int):∀(e:List Int) (r:List Bool),yA r (e.foldl (wB l now) r)
  | [],r=>fun _ h=>h
  | y::e,r=>fun k hk=>Bs l now e _ k (PF l now r y k hk)
theorem Et(l:List c6)(now:Int)(k:Nat)(r:List Bool)(o:c6):yA r (visit l now k r o):=by
  unfold visit;split
  · exact fun _ h=>h
  · exact Bs _ _ _ _
theorem EL(l:List c6)(now:Int):∀(e:List Int) (r:List Bool),(∀y,y∈e->y.toNat<r.length)->∀y,y∈e->ep (nth l y) now=false->(e.foldl (wB l now) r)[y.toNat]?=some true
  | z::e,r,hr,y,hy,hx=>by
    rw[List.foldl_cons]
    rcases List.mem_cons.1 hy with rfl|hy
    · refine Bs l now e _ _ ?_;unfold wB;rw[if_neg (by simp[hx]),List.getElem?_set_self (hr y (by simp))]
    · exact EL l now e _ (fun x h=>by rw[BQ];exact hr x (by simp[h])) y hy hx
def u7(l:List c6)(now:Int)(r:List Bool):Prop:=∀k:Nat,r[k]?=some true->Reaches l now (k:Int)
theorem E6{l:List c6}{now i:Int}(hi:Reaches l now i):∀(e:List Int) (r:List Bool),(∀y,y∈e->y∈eY l i)->u7 l now r->u7 l now (e.foldl (wB l now) r)
  | [],r,_,h=>h
  | y::e,r,he,h=>by
    rw[List.foldl_cons];refine E6 hi e _ (fun x hx=>he x (by simp[hx])) ?_;unfold wB;split
    · exact h
    · rename_i hx;intro k hk
      rcases setAt hk with q|q
      · have hy:=he y (by simp);have:=jw hy
        have e:(k:Int)=y:=by omega
        rw[e];exact .step hi hy (by simpa using hx)
      · exact h k q
theorem Aa{r:List Bool}{k:Nat}:nth r (k:Int)=true <-> r[k]?=some true:=by
  unfold nth;rw[Int.toNat_natCast]
  cases h:r[k]? with
  | none=>simp;try rfl
  | some b=>simp
theorem yF{l:List c6}{now:Int}{k:Nat}{r:List Bool}{o:c6}(h:u7 l now r):u7 l now (visit l now k r o):=by
  unfold visit;split
  · exact h
  · rename_i hc;simp only[Bool.or_eq_true,Bool.not_eq_true',not_or,Bool.not_eq_false]at hc;exact E6 (h k (Aa.1 hc.1)) _ _ (fun _ hy=>hy) h
theorem wK{l:List c6}{now:Int}:∀(m:List c6) (k:Nat) (r:List Bool),u7 l now r->(foldI (visit l now) k r m).length=r.length/\yA r (foldI (visit l now) k r m)/\u7 l now (foldI (visit l now) k r m)
  | [],k,r,h=>⟨rfl,fun _ h=>h,h⟩
  | o::m,k,r,h=>by
    obtain⟨h1,h2,h3⟩:=wK m (k+1) (visit l now k r o) (yF h);exact⟨by unfold foldI;rw[h1,wD],fun j hj=>h2 j (Et l now k r o j hj),h3⟩
def yP(l:List c6)(now:Int)(r q:List Bool):Prop:=∀i:Nat,r[i]?=some true->∀y,y∈eY l (i:Int)->ep (nth l y) now=false->q[y.toNat]?=some true
theorem ns{l:List c6}{now:Int}(h:Ar l){k:Int}(hr:Reaches l now k)(hk:k ≠ 0):ep (nth l k) now=false:=by
  cases hr with
  | root=>exact absurd rfl hk
  | step _ _ h3=>exact h3
theorem CT{l:List c6}{now:Int}(h:Ar l):∀(m:List c6) (k:Nat) (r q:List Bool),(∀j:Nat,m[j]?=l[k+j]?)->r.length=10->u7 l now r->yA q r->∀i:Nat,k<=i->q[i]?=some true->∀y,y∈eY l (i:Int)->ep (nth l y) now=false->(foldI (visit l now) k r m)[y.toNat]?=some true
  | [],k,r,q,hm,hr,hs,hq,i,hi,hqi,y,hy,hx=>by
    have:=(hs i (hq i hqi)).kH h;have h2:=hm (i-k);rw[show k+(i-k)=i by omega]at h2;have:=h.len;rw[List.getElem?_eq_getElem (show i<l.length by omega)]at h2;simp at h2
  | o::m,k,r,q,hm,hr,hs,hq,i,hi,hqi,y,hy,hx=>by
    have ho:l[k]?=some o:=by have:=hm 0;simpa using this.symm
    unfold foldI
    rcases Nat.eq_or_lt_of_le hi with e|hlt
    · subst e;refine(wK m (k+1) _ (yF hs)).2.1 _ ?_;have hk:nth r (k:Int)=true:=Aa.2 (hq k hqi)
      have hn:(ep o now&&decide ((k:Int)>0))=false:=by
        by_cases h0:k=0
        · subst h0;simp
        · have:=ns h (hs k (hq k hqi)) (by omega);rw[nK ho]at this;simp[this]
      unfold visit;rw[if_neg (by rw[hk,hn];decide)];exact EL l now _ r (fun z hz=>by have:=jw hz;have:=h.len;omega) y hy hx
    · exact CT h m (k+1) (visit l now k r o) q (fun j=>by have:=hm (j+1);rw[show k+1+j=k+(j+1) by omega, <- this];rfl) (by rw[wD,hr]) (yF hs) (fun j hj=>Et l now k r o j (hq j hj)) i hlt hqi y hy hx
theorem yS{l:List c6}{now:Int}(h:Ar l):∀(n:Nat) (r:List Bool),r.length=10->u7 l now r->(qb l now n r).length=10/\yA r (qb l now n r)/\u7 l now (qb l now n r)/\(sK r<n->yP l now (qb l now n r) (qb l now n r))
  | 0,r,hr,hs=>⟨hr,fun _ h=>h,hs,fun h=>by omega⟩
  | n+1,r,hr,hs=>by
    obtain⟨p1,p2,p3⟩:=wK (l:=l) (now:=now) l 0 r hs;have p4:=fun i hi=>CT h l 0 r r (fun j=>by rw[Nat.zero_add]) hr hs (fun _ h=>h) i (Nat.zero_le _) hi;obtain⟨q1,q2,q3,q4⟩:=yS h n (ui l now r) (by unfold ui;rw[p1,hr]) p3;refine⟨q1,fun k hk=>q2 k (p2 k hk),q3,fun hc=>?_⟩
    by_cases hcl:sK (ui l now r)<n
    · exact q4 hcl
    · have e:r=ui l now r:=Ft p1.symm p2 (by omega)
      have fix:∀m,qb l now m r=r:=by
        intro m
        induction m with
        | zero=>rfl
        | succ m ih=>unfold qb;rw[<- e,ih]
      rw[fix (n+1)];intro i hi y hy hx;have:=p4 i hi y hy hx
      rwa[show foldI (visit l now) 0 r l=r from e.symm]at this
def MV(l:List c6)(now:Int)(r:List Bool):Prop:=r.length=10/\∀k:Nat,r[k]?=some true <-> Reaches l now (k:Int)
theorem JT{l:List c6}{now:Int}(h:Ar l){r:List Bool}(hl:r.length=10)(hs:u7 l now r)(h0:r[0]?=some true)(hc:yP l now r r):MV l now r:=by
  refine⟨hl,fun k=>⟨hs k,fun hr=>?_⟩⟩
  have key:∀j:Int,Reaches l now j->r[j.toNat]?=some true:=by
    intro j hj
    induction hj with
    | root=>exact h0
    | step h1 h2 h3 ih =>
      rename_i i k;have:=(Reaches.kH h h1);refine hc i.toNat ih k ?_ h3
      rwa[show((i.toNat:Nat):Int)=i by omega]
  simpa using key k hr
theorem OX{l:List c6}{now:Int}{r q:List Bool}(h1:MV l now r)(h2:MV l now q):r=q:=by
  apply List.ext_getElem? fun k=>?_
  rcases Nat.lt_or_ge k 10 with hk|hk
  · have e:r[k]?=some true <-> q[k]?=some true:=(h1.2 k).trans (h2.2 k).symm;rw[List.getElem?_eq_getElem (by rw[h1.1];exact hk),List.getElem?_eq_getElem (by rw[h2.1];exact hk)]at e⊢;generalize r[k]'(by rw[h1.1];exact hk)=a at *;generalize q[k]'(by rw[h2.1];exact hk)=b at *;cases a<;>cases b<;>simp_all
  · rw[List.getElem?_eq_none (by rw[h1.1];exact hk),List.getElem?_eq_none (by rw[h2.1];exact hk)]
theorem JO(l:List c6)(now:Int):u7 l now ((List.replicate 10 false).set 0 true):=fun k hk=>by
  rcases setAt hk with q|q
  · subst q;exact .root
  · rw[List.getElem?_replicate]at q;split at q<;>simp at q
theorem xL{l:List c6}(h:Ar l)(now:Int):MV l now (reach l now):=by
  unfold reach;rw[if_pos (fO.2 h)];obtain⟨q1,q2,q3,q4⟩:=yS (now:=now) h 10 ((List.replicate 10 false).set 0 true) rfl (JO l now);exact JT h q1 q3 (q2 0 rfl) (q4 (by decide))
theorem mf{l:List c6}(h:Ar l)(now:Int):(reach l now).length=10:=(xL h now).1
theorem yc{l:List c6}{now:Int}:∀(m:List c6) (k:Nat) (r:List Bool),(foldI (visit l now) k r m).length=r.length
  | [],k,r=>rfl
  | o::m,k,r=>by unfold foldI;rw[yc m,wD]
theorem Nb{N:Nat}(hN:dh<=N){l:List c6}(h:Ar l){now:Int}{e:List Int}(he:∀y,y∈e->0<=y/\y<=9)(hl:e.length<=10){r:List Bool}(hr:r.length=10):
    iter (fun(s67:(List Bool)×Int)=>(bif(decide (s67.2<(e.length:Int)))then((idx e s67.2).bind fun y70=>(idx l y70).bind fun y83=>bif(!(ep y83 now))then((idx s67.1 y70).bind fun y104=>some (.inl (s67.1.set (y70:Int).toNat true,i64.wrap (s67.2+1))))else(some (.inl (s67.1,i64.wrap (s67.2+1)))))else(some (.inr (s67.1,s67.2))):Option (((List Bool)×Int)⊕((List Bool)×Int)))) N (r,0)=some (e.foldl (wB l now) r,(e.length:Int)):=by
  have hB:e.length<dh:=Nat.lt_of_le_of_lt hl (by decide)
  rw[show(r,(0:Int))=(fun(k:Nat) (t:List Bool)=>(t,(k:Int))) 0 r from rfl,
    gy e (fun(k:Nat) (t:List Bool)=>(t,(k:Int))) (fun _ t y=>wB l now t y) (fun t=>(t,(e.length:Int))) (fun _ t=>t.length=10) ?_ ?_ (Nat.lt_of_lt_of_le hB hN) hr,ir]
  · intro k t y hy hk ht;obtain⟨y0,y9⟩:=he y (List.mem_of_getElem? hy);refine⟨?_,by rw[BQ,ht]⟩;simp only[ey hk,RA,dN,hy,Ry,(h.at y0 y9).1,uV,eD (Nat.lt_trans hk hB),eP (l:=t) y0 (by omega)];unfold wB;cases ep (nth l y) now<;>rfl
  · intro t _;simp only[er,Rz]
theorem jH{l:List c6}(h:Ar l)(i:Int):(∀y,y∈eY l i->0<=y/\y<=9)/\(eY l i).length<=10:=by
  have:=h.len;refine⟨fun y hy=>by have:=jw hy;omega,by have:=Kn l i;omega⟩
theorem Bz{N:Nat}(hN:dh<=N){l:List c6}(hb:eK dA l<dh)(hw:wA l)(now:Int):pV N l now=some (reach l now):=by
  unfold pV reach;rw[qF hN hb hw,Ry];cases ha:gC l
  · rfl
  have h:=fO.1 ha;have hB:=h.uX;simp only[RB,Rz,if_true];rw[show mk Bool 10=some (List.replicate 10 false) from rfl];simp only[Ry];rw[show idx (List.replicate 10 false) 0=some false from rfl];simp only[Ry]
  have hin:∀r:List Bool,r.length=10->iter (fun(s21:(List Bool)×Int)=>(bif(decide (s21.2<(l.length:Int)))then(((idx s21.1 s21.2).bind fun y26=>bif(!y26)then(some true)else((idx l s21.2).bind fun y40=>(ks N y40 now).bind fun y58=>bif y58 then(some (decide (s21.2>0)))else(some false)):Option Bool).bind fun j24=>bif j24 then(some (.inl (s21.1,i64.wrap (s21.2+1))))else((ot N l s21.2).bind fun y63=>(iter (fun(s67:(List Bool)×Int)=>(bif(decide (s67.2<(y63.length:Int)))then((idx y63 s67.2).bind fun y70=>(idx l y70).bind fun y83=>(ks N y83 now).bind fun y101=>bif(!y101)then((idx s67.1 y70).bind fun y104=>some (.inl (s67.1.set (y70:Int).toNat true,i64.wrap (s67.2+1))))else(some (.inl (s67.1,i64.wrap (s67.2+1)))))else(some (.inr (s67.1,s67.2))):Option (((List Bool)×Int)⊕((List Bool)×Int)))) N (s21.1,0)).bind fun o111=>some (.inl (o111.1,i64.wrap (s21.2+1)))))else(some (.inr (s21.1,s21.2))):Option (((List Bool)×Int)⊕((List Bool)×Int)))) N (r,0)=some (ui l now r,(l.length:Int)):=by
    intro r hr
    rw[show(r,(0:Int))=(fun(k:Nat) (t:List Bool)=>(t,(k:Int))) 0 r from rfl,
      gy l (fun(k:Nat) (t:List Bool)=>(t,(k:Int))) (fun k t y=>visit l now k t y) (fun t=>(t,(l.length:Int))) (fun _ t=>t.length=10) ?_ ?_ (Nat.lt_of_lt_of_le hB hN) hr]
    · rfl
    · intro k t y hy hk ht
      have hk10:k<10:=by rw[<- h.len];exact hk
      refine⟨?_,by rw[wD,ht]⟩;simp only[ey hk,RA];rw[eP (l:=t) (i:=(k:Int)) (by omega) (by omega)];simp only[dN,hy,Ry,uV,eD (Nat.lt_trans hk hB)];rw[BY hN hb hw h (i:=(k:Int)) (by omega) (by omega),Ry,Nb hN h (jH h _).1 (jH h _).2 ht];unfold visit;cases nth t (k:Int)<;>cases ep y now<;>cases decide ((k:Int)>0)<;>rfl
    · intro t _;simp only[er,Rz]
  have hout:∀(n:Nat) (j:Nat) (r:List Bool),r.length=10->foldI (fun _ t (_:Unit)=>ui l now t) j r (List.replicate n ())=qb l now n r:=by
    intro n
    induction n with
    | zero=>intro j r _;rfl
    | succ n ih=>intro j r hr;rw[List.replicate_succ];unfold foldI qb;exact ih _ _ (by
        have:=yc (l:=l) (now:=now) l 0 r
        unfold ui;rw[this,hr])
  rw[show(((List.replicate 10 false).set (0:Int).toNat true,(0:Int)):List Bool×Int)=(fun(k:Nat) (t:List Bool)=>(t,(k:Int))) 0 ((List.replicate 10 false).set 0 true) from rfl,
    gy (List.replicate 10 ()) (fun(k:Nat) (t:List Bool)=>(t,(k:Int))) (fun _ t _=>ui l now t) (fun t=>(t,(10:Int))) (fun _ t=>t.length=10) ?_ ?_ (OR (k:=0) hN (by decide)) rfl,hout 10 0 _ rfl]
  · rfl
  · intro k t y hy hk ht
    have hk:k<10:=by simpa using hk
    refine⟨?_,by have:=yc (l:=l) (now:=now) l 0 t;unfold ui;rw[this,ht]⟩
    have h3:decide ((k:Int)<10)=true:=by simp;omega
    simp only[h3,RA];rw[hin t ht];simp only[Ry,eD (show k<dh from Nat.lt_trans hk (by decide))]
  · intro t _;rfl
def push(l:List c6)(now:Int)(s:List Bool×List Int)(y:Int):List Bool×List Int:=if !(nth s.1 y)&&!ep (nth l y) now then(s.1.set y.toNat true,s.2++[y])else s
theorem yT{r:List Bool}{y:Int}(h0:0<=y):nth r y=true <-> r[y.toNat]?=some true:=by
  have:=Aa (r:=r) (k:=y.toNat)
  rwa[show((y.toNat:Nat):Int)=y by omega]at this
theorem xI{l:List c6}{now i:Int}(hi:Reaches l now i):∀(e:List Int) (s:List Bool×List Int),(∀y,y∈e->y∈eY l i/\0<=y/\y<=9)->s.1.length=10->u7 l now s.1 ->
    let z:=e.foldl (push l now) s
    z.1.length=10/\u7 l now z.1/\yA s.1 z.1/\z.2.length+sK z.1=s.2.length+sK s.1/\(∀y,y∈e->ep (nth l y) now=false->z.1[y.toNat]?=some true)/\(∀y,y∈s.2->y∈z.2) /\
      (∀y,y∈z.2->y∈s.2\/(0<=y/\z.1[y.toNat]?=some true))/\(∀k:Nat,z.1[k]?=some true->s.1[k]?=some true\/(k:Int)∈z.2)
  | [],s,_,h1,h2=>⟨h1,h2,fun _ h=>h,rfl,fun _ h=>absurd h (by simp),fun _ h=>h,fun _ h=>.inl h,fun _ h=>.inl h⟩
  | y::e,s,he,h1,h2=>by
    obtain⟨e1,e2,e3⟩:=he y (by simp)
    have hlt:y.toNat<s.1.length:=by omega
    simp only[List.foldl_cons]
    by_cases hc:(!(nth s.1 y)&&!ep (nth l y) now)=true
    · have hp:push l now s y=(s.1.set y.toNat true,s.2++[y]):=by unfold push;rw[if_pos hc]
      simp only[RD,Bool.not_eq_true']at hc
      have hf:s.1[y.toNat]?=some false:=by
        have:¬ s.1[y.toNat]?=some true:=fun q=>by rw[(yT e2).2 q]at hc;simp at hc
        rw[List.getElem?_eq_getElem hlt]at this⊢;cases hb:s.1[y.toNat]<;>simp_all
      have hs:u7 l now (s.1.set y.toNat true):=fun k hk=>by
        rcases setAt hk with q|q
        · have e:(k:Int)=y:=by omega
          rw[e];exact .step hi e1 hc.2
        · exact h2 k q
      rw[hp];obtain⟨a1,a2,a3,a4,a5,a6,a7,a8⟩:=xI hi e (s.1.set y.toNat true,s.2++[y]) (fun x hx=>he x (by simp[hx])) (by simpa using h1) hs;have hy:(e.foldl (push l now) (s.1.set y.toNat true,s.2++[y])).1[y.toNat]?=some true:=a3 _ (List.getElem?_set_self hlt);refine⟨a1,a2,fun k hk=>a3 k (G6 k hk),?_,fun x hx hxx=>?_,fun x hx=>a6 x (by simp[hx]),fun x hx=>?_,fun k hk=>?_⟩
      · have:=Hc hf;simp only[List.length_append,List.length_cons,List.length_nil]at a4;omega
      · rcases List.mem_cons.1 hx with rfl|hx
        · exact hy
        · exact a5 x hx hxx
      · rcases a7 x hx with q|q
        · rcases List.mem_append.1 q with q|q
          · exact .inl q
          · simp at q;subst q;exact .inr ⟨e2,hy⟩
        · exact .inr q
      · rcases a8 k hk with q|q
        · rcases setAt q with q|q
          · refine .inr (a6 (k:Int) ?_)
            have e:(k:Int)=y:=by omega
            simp[e]
          · exact .inl q
        · exact .inr q
    · have hp:push l now s y=s:=by unfold push;rw[if_neg hc]
      rw[hp];obtain⟨a1,a2,a3,a4,a5,a6,a7,a8⟩:=xI hi e s (fun x hx=>he x (by simp[hx])) h1 h2;refine⟨a1,a2,a3,a4,fun x hx hxx=>?_,a6,a7,a8⟩
      rcases List.mem_cons.1 hx with rfl|hx
      · refine a3 _ ((yT e2).1 ?_);cases hn:nth s.1 x
        · exact absurd (show(!(nth s.1 x)&&!ep (nth l x) now)=true by simp[hn,hxx]) hc
        · rfl
      · exact a5 x hx hxx
theorem CJ(l:List c6)(now:Int):∀(e:List Int) (s:List Bool×List Int),s.2.length<=(e.foldl (push l now) s).2.length
  | [],s=>Nat.le_refl _
  | y::e,s=>by
    rw[List.foldl_cons];refine Nat.le_trans ?_ (CJ l now e _);unfold push;split<;>simp
theorem LB{N:Nat}(hN:dh<=N){l:List c6}(h:Ar l){now:Int}{e:List Int}(he:∀y,y∈e->0<=y/\y<=9)(hl:e.length<=10){r:List Bool}(hr:r.length=10){t:List Int}(ht:t.length<=100):
    iter (fun(s45:(List Bool)×(List Int)×Int)=>(bif(decide (s45.2.2<(e.length:Int)))then((idx e s45.2.2).bind fun y48=>((idx s45.1 y48).bind fun y63=>bif(!y63)then((idx l y48).bind fun y77=>(la N y77 now).bind fun y95=>some (!y95))else(some false):Option Bool).bind fun j61=>bif j61 then((idx s45.1 y48).bind fun y99=>(app s45.2.1 [y48]).bind fun y106=>some (.inl (s45.1.set (y48:Int).toNat true,y106,i64.wrap (s45.2.2+1))))else(some (.inl (s45.1,s45.2.1,i64.wrap (s45.2.2+1)))))else(some (.inr (s45.1,s45.2.1,s45.2.2))):Option (((List Bool)×(List Int)×Int)⊕((List Bool)×(List Int)×Int)))) N (r,t,0) =
      some ((e.foldl (push l now) (r,t)).1,(e.foldl (push l now) (r,t)).2,(e.length:Int)):=by
  have hB:e.length<dh:=Nat.lt_of_le_of_lt hl (by decide)
  rw[show(r,t,(0:Int))=(fun(k:Nat) (s:List Bool×List Int)=>(s.1,s.2,(k:Int))) 0 (r,t) from rfl,
    gy e (fun(k:Nat) (s:List Bool×List Int)=>(s.1,s.2,(k:Int))) (fun _ s y=>push l now s y) (fun s=>(s.1,s.2,(e.length:Int))) (fun k s=>s.1.length=10/\s.2.length<=100+k) ?_ ?_ (Nat.lt_of_lt_of_le hB hN) ⟨hr,ht⟩,ir]
  · intro k s y hy hk ⟨i1,i2⟩;obtain⟨y0,y9⟩:=he y (List.mem_of_getElem? hy)
    refine⟨?_,by
      unfold push;split
      · simp only[List.length_set,List.length_append,List.length_cons,List.length_nil];omega
      · omega⟩
    have hkB:100+k+1<dh:=by have:(16777216:Nat)=dh:=rfl;omega
    simp only[ey hk,RA,dN,hy,Ry,(h.at y0 y9).1,wz,eD (Nat.lt_trans hk hB),eP (l:=s.1) y0 (by omega),hY i2 hkB,iK];unfold push;cases(!(nth s.1 y)&&!ep (nth l y) now)<;>rfl
  · intro s _;simp only[er,Rz]
theorem BR{N:Nat}(hN:dh<=N){l:List c6}(hb:eK dA l<dh)(now:Int):qi N l now=some (reach l now):=by
  unfold qi;rw[uM hN hb,Ry];cases ha:gC l
  · unfold reach;rw[ha];rfl
  have h:=fO.1 ha;simp only[RB,Rz];rw[show mk Bool 10=some (List.replicate 10 false) from rfl];simp only[Ry];rw[show idx (List.replicate 10 false) 0=some false from rfl];simp only[Ry]
  obtain⟨z,hz,hz1,hz2,hz3,hz4⟩:=EE (body:=fun(s18:(List Bool)×(List Int))=>(bif(decide ((s18.2.length:Int)>0))then((idx s18.2 0).bind fun y21=>(sub s18.2 1 (s18.2.length:Int)).bind fun y34=>(ml N l y21).bind fun y41=>(iter (fun(s45:(List Bool)×(List Int)×Int)=>(bif(decide (s45.2.2<(y41.length:Int)))then((idx y41 s45.2.2).bind fun y48=>((idx s45.1 y48).bind fun y63=>bif(!y63)then((idx l y48).bind fun y77=>(la N y77 now).bind fun y95=>some (!y95))else(some false):Option Bool).bind fun j61=>bif j61 then((idx s45.1 y48).bind fun y99=>(app s45.2.1 [y48]).bind fun y106=>some (.inl (s45.1.set (y48:Int).toNat true,y106,i64.wrap (s45.2.2+1))))else(some (.inl (s45.1,s45.2.1,i64.wrap (s45.2.2+1)))))else(some (.inr (s45.1,s45.2.1,s45.2.2))):Option (((List Bool)×(List Int)×Int)⊕((List Bool)×(List Int)×Int)))) N (s18.1,y34,0)).bind fun o111=>some (.inl (o111.1,o111.2.1)))else(some (.inr (s18.1,s18.2))):Option (((List Bool)×(List Int))⊕((List Bool)×(List Int)))))
    (fun s=>s.2.length+2*sK s.1)
    (fun s=>s.1.length=10/\u7 l now s.1/\s.1[0]?=some true/\s.2.length+sK s.1<=10/\(∀y,y∈s.2->0<=y/\s.1[y.toNat]?=some true)/\∀i:Nat,s.1[i]?=some true->(i:Int)∈s.2\/∀y,y∈eY l (i:Int)->ep (nth l y) now=false->s.1[y.toNat]?=some true)
    (fun s=>s.1.length=10/\u7 l now s.1/\s.1[0]?=some true/\yP l now s.1 s.1)
    (fun s hI=>by
      obtain⟨r,t⟩:=s;obtain⟨i1,i2,i3,i4,i5,i6⟩:=hI;simp only at i1 i2 i3 i4 i5 i6
      cases t with
      | nil=>exact .inr ⟨(r,[]),rfl,i1,i2,i3,fun i hi=>by have:=i6 i hi;simpa using this⟩
      | cons x t =>
        left;obtain⟨x0,xr⟩:=i5 x (by simp)
        have hx:Reaches l now x:=by have:=i2 x.toNat xr;rwa[show((x.toNat:Nat):Int)=x by omega]at this
        obtain⟨_,x9⟩:=hx.kH h
        have hsub:sub (x::t) 1 ((x::t).length:Int)=some t:=by
          unfold sub;rw[if_pos ⟨by omega,by simp only[List.length_cons];omega,Int.le_refl _⟩];simp
        obtain⟨e1,e2⟩:=jH h x
        have hpos:decide (((x::t).length:Int)>0)=true:=by simp
        obtain⟨a1,a2,a3,a4,a5,a6,a7,a8⟩:=xI hx (eY l x) (r,t) (fun y hy=>⟨hy,e1 y hy⟩) i1 i2;simp only[List.length_cons]at i4;refine⟨(eY l x).foldl (push l now) (r,t),?_,⟨a1,a2,a3 0 i3,by simp only at a4;omega,fun y hy=>?_,fun i hi=>?_⟩,?_⟩
        · simp only[hpos,RA];rw[show idx (x::t) 0=some x from rfl];simp only[Ry,hsub];rw[ym hN h x0 x9,Ry,LB hN h e1 e2 i1 (by omega)];rfl
        · rcases a7 y hy with q|q
          · obtain⟨q1,q2⟩:=i5 y (by simp[show y∈t from q]);exact⟨q1,a3 _ q2⟩
          · exact q
        · rcases a8 i hi with q|q
          · rcases i6 i q with q|q
            · rcases List.mem_cons.1 q with q|q
              · rw[q];exact .inr a5
              · exact .inl (a6 _ q)
            · exact .inr fun y hy hyx=>a3 _ (q y hy hyx)
          · exact .inl q
        · simp only[List.length_cons]at a4⊢
          have hle:sK ((eY l x).foldl (push l now) (r,t)).1<=sK r:=by
            have:t.length<=((eY l x).foldl (push l now) (r,t)).2.length:=CJ l now (eY l x) (r,t);omega
          omega)
    N ((List.replicate 10 false).set 0 true,[0]) ⟨rfl,JO l now,rfl,by decide,fun y hy=>by simp at hy;subst hy;exact⟨by decide,rfl⟩,fun i hi=>by
      rcases setAt hi with q|q
      · subst q;exact .inl (by simp)
      · rw[List.getElem?_replicate]at q;split at q<;>simp at q⟩ (by have:16777216<=N:=hN;simp only[show sK ((List.replicate 10 false).set 0 true)=9 from rfl,List.length_cons,List.length_nil];omega)
  rw[show((List.replicate 10 false).set (0:Int).toNat true)=(List.replicate 10 false).set 0 true from rfl,hz,Ry];exact congrArg some (OX (JT h hz1 hz2 hz3 hz4) (xL h now))
theorem kl{h:df}(q:fR h=true):Ar h.ag:=by
  unfold fR at q;simp only[RD]at q;exact fO.1 q.1
def threads(p:bh)(now:Int):List Int:=if dI p then jj (fun k b=>b&&((nth p.heap.ag (k:Int)).so==4)) (fun k _=>(k:Int)) 0 (reach p.heap.ag now)else[]
theorem fe{p:bh}(h:dI p=true):Ar p.heap.ag:=by
  unfold dI fR at h;simp only[RD]at h;exact fO.1 h.2.2.2.1.1
theorem ll{p:bh}{now k:Int}(h:k∈threads p now):dI p=true/\0<=k/\k<=9:=by
  unfold threads at h;split at h
  · rename_i hp;obtain⟨j,b,h1,_,h3⟩:=sP.1 h;have:=eJ h1;rw[mf (fe hp)]at this;have h3:k=((0+j:Nat):Int):=h3;exact⟨hp,by omega,by omega⟩
  · simp at h
theorem zI{N:Nat}(hN:dh<=N){l:List c6}(h:Ar l){now:Int}{body:List Int×Int->Option ((List Int×Int)⊕(List Int×Int))}
    (hs:∀(k:Nat) (t:List Int) (b:Bool),(reach l now)[k]?=some b->k<10->t.length<=k->body (t,(k:Int))=some (.inl (if b&&((nth l (k:Int)).so==4)then t++[(k:Int)]else t,((k+1:Nat):Int))))
    (he:∀t,body (t,10)=some (.inr (t,10))):iter body N ([],0)=some (jj (fun k b=>b&&((nth l (k:Int)).so==4)) (fun k _=>(k:Int)) 0 (reach l now),10):=by
  have hl:=mf h now
  have e:((reach l now).length:Int)=10:=by omega
  rw[m7 (reach l now) (fun k b=>b&&((nth l (k:Int)).so==4)) (fun k _=>(k:Int)) (by rw[hl];decide) hN,e]
  · intro k t b hb hk ht;exact hs k t b hb (by omega) ht
  · intro t;rw[e];exact he t
theorem yw{N:Nat}(hN:dh<=N){p:bh}(hb:dG p<dh)(now:Int):nw N p now=some (threads p now):=by
  unfold nw threads;rw[sA hN hb,Ry];cases hp:dI p
  · rfl
  have h:=fe hp;have hl:=mf h now;simp only[RB,Rz,BR hN (gE hb).2.2.2.1,Ry,if_true];rw[zI hN h]
  · rfl
  · intro k t b hy hk ht
    have hd:decide ((k:Int)<((reach p.heap.ag now).length:Int))=true:=by simp;omega
    simp only[hd,RA];rw[(h.at (i:=(k:Int)) (by omega) (by omega)).1];simp only[dN,hy,Ry,iK,eD (show k<dh from Nat.lt_trans hk (by decide)),hY ht (show k+1<dh from Nat.lt_trans (Nat.succ_lt_succ hk) (by decide))];cases(b&&((nth p.heap.ag (k:Int)).so==4))<;>rfl
  · intro t;simp only[hl];rfl
theorem wi{N:Nat}(hN:dh<=N){p:bh}(hb:dG p<dh)(hw:wP p)(now:Int):mn N p now=some (threads p now):=by
  unfold mn threads;rw[ss hN hb hw,Ry];cases hp:dI p
  · rfl
  have h:=fe hp;have hl:=mf h now;simp only[RB,Rz,Bz hN (gE hb).2.2.2.1 hw,Ry,if_true];rw[zI hN h]
  · rfl
  · intro k t b hy hk ht
    have hd:decide ((k:Int)<((reach p.heap.ag now).length:Int))=true:=by simp;omega
    simp only[hd,RA];rw[(h.at (i:=(k:Int)) (by omega) (by omega)).1];simp only[dN,hy,Ry,iK,eD (show k<dh from Nat.lt_trans hk (by decide)),hY ht (show k+1<dh from Nat.lt_trans (Nat.succ_lt_succ hk) (by decide))];cases(b&&((nth p.heap.ag (k:Int)).so==4))<;>rfl
  · intro t;simp only[hl];rfl
theorem pw(p:bh)(now:Int):(threads p now).length<dh:=by
  unfold threads;split
  · rename_i hp;refine Nat.lt_of_le_of_lt (wF _ _ _ _) ?_;rw[mf (fe hp)];decide
  · decide
def iV(p:bh)(now:Int)(th:Int):Bool:=(threads p now).contains th&&((nth p.heap.ag th).Rm==0)
theorem CQ{N:Nat}(hN:dh<=N){p:bh}(hb:dG p<dh)(now th:Int):pH N p now th=some (iV p now th):=by
  unfold pH iV;simp only[yw hN hb,Ry,re hN (pw p now)];cases hc:(threads p now).contains th
  · rfl
  · obtain⟨h1,h2,h3⟩:=ll (List.contains_iff_mem.1 hc);simp only[RA,((fe h1).at h2 h3).1,Ry,RC]
theorem B9{N:Nat}(hN:dh<=N){p:bh}(hb:dG p<dh)(hw:wP p)(now th:Int):px N p now th=some (iV p now th):=by
  unfold px iV;simp only[wi hN hb hw,Ry,vt hN (pw p now)];cases hc:(threads p now).contains th
  · rfl
  · obtain⟨h1,h2,h3⟩:=ll (List.contains_iff_mem.1 hc);simp only[RA,((fe h1).at h2 h3).1,Ry,RC]
end Go.Kx
