import Derived.Test.YtfmfgnhbgcjajaaGreatOpa
import Derived.OrdersHeld
namespace Go.Kx
open Go Go.RowKit
set_option linter.unusedVariables false
set_option linter.unusedSimpArgs false
def waits(ops:Array Oper)(j k:Nat):Bool :=
  match ops[j]? with
  | some o=>o.after.any fun e=>Region.binds .any e&&e.on==k
  | none=>false
abbrev nG:=List (Nat×(World->Prop))
def qQ(P:Program)(ops:Array Oper)(Q:Exit->Act->World->Prop):Nat->nG->Array Bool->Act->World->Prop
  | 0,_,listed,a,w=>Region.ready .any ops listed=[]/\Q .normal a w
  | fuel+1,E,listed,a,w=>(Region.ready .any ops listed=[]->Q .normal a w)/\∀j∈Region.ready .any ops listed,
      wpOp P ops Q j (fun a' w'=>(∀p,p∈E->waits ops j p.1=false->p.2 w->p.2 w')/\qQ P ops Q fuel E (listed.setIfInBounds j true) a' w') a w
section
variable {P:Program} {ops:Array Oper} {Q:Exit->Act->World->Prop}
theorem qQ.any:∀(fuel:Nat) {E:nG} {listed:Array Bool} {a:Act} {w:World},qQ P ops Q fuel E listed a w->wpAny P .any ops Q fuel listed a w
  | 0,_,_,_,_,h=>h
  | fuel+1,_,_,_,_,h=>⟨h.1,fun i hi=>wpOp_mono (fun a' w' h'=>qQ.any fuel h'.2) (h.2 i hi)⟩
theorem qQ.less:∀(fuel:Nat) {E E':nG} {listed:Array Bool} {a:Act} {w:World},(∀p,p∈E'->p∈E\/∀w,p.2 w)->qQ P ops Q fuel E listed a w->qQ P ops Q fuel E' listed a w
  | 0,_,_,_,_,_,_,h=>h
  | fuel+1,_,_,_,_,_,he,h=>⟨h.1,fun i hi=>wpOp_mono (fun a' w' h'=>⟨fun p hp hw hc=>(he p hp).elim (fun h1=>h'.1 p h1 hw hc) (fun h1=>h1 w'),qQ.less fuel he h'.2⟩) (h.2 i hi)⟩
theorem Kv{j k:Nat}{o:Oper}(ho:ops[j]?=some o)(h:∀e∈o.after,Region.binds .any e=true->e.on ≠ k):waits ops j k=false:=by
  unfold waits;rw[ho];simp only;cases hb:o.after.any fun e=>Region.binds .any e&&e.on==k
  · rfl
  · obtain⟨e,he,hb⟩:=Array.any_eq_true'.1 hb;simp only[RP,beq_iff_eq]at hb;exact absurd hb.2 (h e he hb.1)
theorem qQ.first{C:World->Prop}{i:Nat}{oi:Oper}{v:Value}(hi:ops[i]?=some oi)(hsel:∀(j:Nat) (o:Oper) cs b,ops[j]?=some o->o.op ≠ .select cs b)
    (hQ:∀c a w,Q (.panic c) (a.put oi.dst v) w->Q (.panic c) a w) :
    ∀(fuel:Nat) (E:nG) (listed:Array Bool) (a:Act) (w:World),
      (∀j oj,ops[j]?=some oj->j ≠ i->listed.getD j true=false->(∀e∈oj.after,Region.binds .any e=true->e.on ≠ i)->oi.apart ops oj=true) ->
      i∈Region.ready .any ops listed->YieldsIf P ops C oi v a->C w ->
      qQ P ops Q fuel ((i,C)::E) (listed.setIfInBounds i true) (a.put oi.dst v) w->qQ P ops Q (fuel+1) E listed a w:=by
  intro fuel
  induction fuel with
  | zero =>
    intro E listed a w _ hr hy hC H;refine⟨fun h=>(by rw[h]at hr;cases hr),fun j hj=>?_⟩
    by_cases hji:j=i
    · subst hji;exact hy.wpOp hi hC ⟨fun _ _ _ h=>h,H⟩
    · have:=ready_mono hj hji;rw[H.1]at this;cases this
  | succ fuel ih =>
    intro E listed a w hfree hr hy hC H;refine⟨fun h=>(by rw[h]at hr;cases hr),fun j hj=>?_⟩
    by_cases hji:j=i
    · subst hji;exact hy.wpOp hi hC ⟨fun _ _ _ h=>h,H.less _ (fun p hp=>.inl (List.mem_cons_of_mem _ hp))⟩
    · have h1:=H.2 j (ready_mono hj hji);obtain⟨hjun,oj,hoj,hall⟩:=mem_ready.1 hj
      have hnot:∀e∈oj.after,Region.binds .any e=true->e.on ≠ i:=fun e he hb heq=>by
        have h1:=hall e he hb;have h0:=(mem_ready.1 hr).1;rw[heq]at h1
        rcases Nat.lt_or_ge i listed.size with h'|h'
        · simp[h']at h0 h1;rw[h0]at h1;cases h1
        · simp[Array.getElem?_eq_none h']at h1
      have h2:=wpOp_putIf hoj (hfree j oj hoj hji hjun hnot) (fun cs b=>hsel i oi cs b hi) (fun cs b=>hsel j oj cs b hoj) hQ hy h1;refine wpOp_mono (fun a' w' h3=>⟨fun p hp hw hc=>h3.2.1 p (List.mem_cons_of_mem _ hp) hw hc,?_⟩) h2;refine ih E (listed.setIfInBounds j true) a' w' (fun k ok hk hki hun hno=>?_) (ready_mono hr (Ne.symm hji)) h3.1 (h3.2.1 (i,C) (by simp) (Kv hoj hnot) hC) ?_
      · refine hfree k ok hk hki ?_ hno
        by_cases hjk:j=k
        · subst hjk;exact hjun
        · rw[getD_set_ne true hjk]at hun;exact hun
      · rw[Array.setIfInBounds_comm _ _ hji];exact h3.2.2
end
def AW(P:Program)(n:Nat)(ops:Array Oper)(Q:iO)(fuel:Nat)(E:nG)(listed:Array Bool)(e:Env)(w:World):Prop:=∀a,Is a n e->qQ P ops (lift n Q) fuel E listed a w
def gR(ops:Array Oper)(listed:Array Bool)(i:Nat):Bool:=Region.noSelect ops&&Region.free .any ops listed i&&(Region.ready .any ops listed).contains i
section
variable {P:Program} {n:Nat} {Q:iO} {e:Env} {w:World} {ops:Array Oper} {fuel:Nat} {E:nG} {listed:Array Bool} {i:Nat}
  {ty:TypeId} {pos:String} {aft:Array Edge} {d:Nat} {v:Value} {g:Option (Nat×Bool)}
theorem CW.draw{id:Nat}{l:List Oper}(hm:P.follows .mixedOrders=true)(h:AW P n l.toArray Q l.length [] (Array.replicate l.length false) e w.drew):CW P n (.region id l.toArray true) Q e w:=by
  intro a ha;refine wp_region_any hm (qQ.any _ (E:=[]) ?_);rw[List.size_toArray];exact h a ha
theorem AW.take{op:Op}{C:World->Prop}(hi:ops[i]?=some ⟨some d,op,ty,pos,aft,g⟩)(hok:gR ops listed i=true)(hw:nA ops g e=true)(hd:Nat.ble (d+1) n=true)
    (hl:fv P (ev e) op C v) (hC:C w) (h:AW P n ops Q fuel ((i,C)::E) (listed.setIfInBounds i true) (im e d v) w):AW P n ops Q (fuel+1) E listed e w:=by
  intro a ha;unfold gR at hok;simp only[RP]at hok;obtain⟨⟨h1,h2⟩,h3⟩:=hok;refine qQ.first (C:=C) (v:=v) hi (Region.noSelect_spec h1) (fun c a w hq=>hq.1.elim) fuel E listed a w (Region.free_spec hi h2) (by simpa using h3) (.inl ⟨?_,fun w' hw'=>?_⟩) hC (h _ (ha.put (Nat.le_of_ble_eq_true hd) v))
  · rw[wD ha];exact hw
  · rw[ha.eval];exact hl _ _ _ _ _ _ hw'
theorem AW.u{op:Op}(hi:ops[i]?=some ⟨some d,op,ty,pos,aft,g⟩)(hok:gR ops listed i=true)(hw:nA ops g e=true)(hd:Nat.ble (d+1) n=true)
    (hl:dL P (ev e) op v) (h:AW P n ops Q fuel E (listed.setIfInBounds i true) (im e d v) w):AW P n ops Q (fuel+1) E listed e w :=
  AW.take (C:=fun _=>True) hi hok hw hd (fun d ty pos aft g w _=>hl d ty pos aft g w) trivial fun a ha=>(h a ha).less _ fun p hp=>(List.mem_cons.1 hp).elim (fun h=>.inr fun _=>by subst h;trivial) .inl
theorem AW.no{op:Op}(hi:ops[i]?=some ⟨some d,op,ty,pos,aft,g⟩)(hok:gR ops listed i=true)(hw:nA ops g e=false)(hd:Nat.ble (d+1) n=true)
    (h:AW P n ops Q fuel E (listed.setIfInBounds i true) (im e d undef) w):AW P n ops Q (fuel+1) E listed e w:=by
  intro a ha;unfold gR at hok;simp only[RP]at hok;obtain⟨⟨h1,h2⟩,h3⟩:=hok
  refine qQ.first (C:=fun _=>True) (v:=undef) hi (Region.noSelect_spec h1) (fun c a w hq=>hq.1.elim) fuel E listed a w (Region.free_spec hi h2) (by simpa using h3) (.inr ⟨?_,rfl⟩) trivial
    ((h _ (ha.put (Nat.le_of_ble_eq_true hd) undef)).less _ fun p hp=>(List.mem_cons.1 hp).elim (fun h=>.inr fun _=>by subst h;trivial) .inl)
  rw[wD ha];exact hw
def EC:List Nat->(Nat->Prop)->Prop
  | [],_=>True
  | i::r,p=>p i/\EC r p
theorem EC.mem{p:Nat->Prop}:∀{l:List Nat},EC l p->∀i,i∈l->p i
  | i::r,h,j,hj=>(List.mem_cons.1 hj).elim (fun e=>e ▸ h.1) (EC.mem h.2 j)
def Kept(ops:Array Oper)(i:Nat)(E:nG)(w w':World):Prop:=∀p,p∈E->waits ops i p.1=false->p.2 w->p.2 w'
def One(P:Program)(n:Nat)(ops:Array Oper)(Q:iO)(fuel:Nat)(E:nG)(listed:Array Bool)(e:Env)(w:World)(i:Nat):Prop :=
  ∃o,ops[i]?=some o/\LW P n ops (fun x e' w'=>x=.normal/\Kept ops i E w w'/\AW P n ops Q fuel E (listed.setIfInBounds i true) e' w') [o] e w
theorem JN{o:Oper}{a:Act}{w:World}{K:Act->World->Prop}{Q Q':Exit->Act->World->Prop}(hp:∀c a w,Q (.panic c) a w->Q' (.panic c) a w)(hl:LetsOut Q->LetsOut Q')
    (h:o.wp P a w K Q):o.wp P a w K Q':=by
  unfold Oper.wp at *;generalize (execOp a.eval o).run P w=r at *
  cases r with
  | ok x w' =>
    cases x<;>simp only[Oper.upon]at h⊢<;>first
      | exact h
      | (refine Calls.mono h fun e w'' hh=>?_
         cases e with
         | returned v=>exact hh
         | panicked c=>exact hp _ _ _ hh
         | outgrown=>exact hl hh)
  | halt x w'=>cases x<;>simp only[Oper.upon]at h⊢<;>first|exact h|exact hp _ _ _ h
theorem AW.all{rs:List Nat}(hr:Region.ready .any ops listed=rs)(hne:rs ≠ [])(h:EC rs (One P n ops Q fuel E listed e w)):AW P n ops Q (fuel+1) E listed e w:=by
  intro a ha;refine⟨fun h0=>absurd (hr ▸ h0) hne,fun j hj=>?_⟩;obtain⟨o,ho,hL⟩:=h.mem j (hr ▸ hj);have h1:=hL a ha;unfold wpList at h1;unfold wpOp;rw[ho];simp only
  have hK:∀(a':Act) (w':World),wpList P ops (lift n fun x e' w'=>x=.normal/\Kept ops j E w w'/\AW P n ops Q fuel E (listed.setIfInBounds j true) e' w') [] a' w' ->
      (∀p,p∈E->waits ops j p.1=false->p.2 w->p.2 w')/\qQ P ops (lift n Q) fuel E (listed.setIfInBounds j true) a' w':=by
    rintro a' w' ⟨_,e',he',_,hk,hA⟩;exact⟨hk,hA a' he'⟩
  split
  · rename_i hwt;rw[if_pos hwt]at h1
    rcases h1 with h1|⟨_,hq⟩
    · exact .inl (Oper.wp_mono hK (JN (fun c a w hq=>hq.1.elim) (fun hq=>by obtain⟨a0,w0,hc,_⟩:=hq;exact hc.elim) h1))
    · obtain⟨a0,w0,hc,_⟩:=hq;exact hc.elim
  · rename_i hwt;rw[if_neg hwt]at h1;exact hK _ _ h1
theorem AW.one(hr:Region.ready .any ops listed=[i])(h:One P n ops Q fuel E listed e w i):AW P n ops Q (fuel+1) E listed e w:=AW.all hr (by simp) ⟨h,trivial⟩
theorem AW.done(hr:Region.ready .any ops listed=[])(h:Q .normal e w):AW P n ops Q fuel E listed e w:=by
  intro a ha
  cases fuel with
  | zero=>exact⟨hr,trivial,e,ha,h⟩
  | succ f=>exact⟨fun _=>⟨trivial,e,ha,h⟩,by rw[hr];simp⟩
end
def iter{σ ρ:Type}(body:σ->Option (σ⊕ρ)):Nat->σ->Option ρ
  | 0,_=>none
  | n+1,s=>(body s).bind fun o=>match o with
    | .inl s'=>iter body n s'
    | .inr r=>some r
theorem xy{α β:Type}{x:Option α}{f:α->Option β}{b:β}(h:x.bind f=some b):∃a,x=some a/\f a=some b:=Option.bind_eq_some_iff.1 h
theorem Q1{α:Type}{c:Bool}{a b:Option α}{r:α}(h:(bif c then a else b)=some r)(hc:c=true):a=some r:=by subst hc;exact h
theorem Q9{α:Type}{c:Bool}{a b:Option α}{r:α}(h:(bif c then a else b)=some r)(hc:c=false):b=some r:=by subst hc;exact h
section
variable {P:Program} {n:Nat} {e:Env} {w:World}
theorem CW.iter{σ ρ:Type}{c:Code}{body:σ->Option (σ⊕ρ)}(R:σ->Env->World->Prop)(Q:ρ->iO)
    (hb:∀(s:σ) (e:Env) (w:World) (o:σ⊕ρ),R s e w->body s=some o->CW P n c (fun x e' w'=>match o with
      | .inl s'=>x=.normal/\R s' e' w'
      | .inr r=>(match x with|.normal=>False|_=>True)/\Q r x e' w') e w)
    (N:Nat) (s:σ) (e:Env) (w:World) (r:ρ) (hR:R s e w) (h:Kx.iter body N s=some r):CW P n (.loop c) (Q r) e w:=by
  have key:∀(N:Nat) (s:σ) (e:Env) (w:World),R s e w->Kx.iter body N s=some r->∀a,Is a n e->Code.rounds P c (lift n (Q r)) N a w:=by
    intro N
    induction N with
    | zero=>intro s e w _ h;cases h
    | succ N ih =>
      intro s e w hR h a ha;obtain⟨o,ho,h2⟩:=xy h;rw[rounds_succ];refine Code.wp_mono ?_ (hb s e w o hR ho a ha);rintro x a' w' ⟨hc,e',he',hq⟩
      cases o with
      | inl s' =>
        obtain⟨rfl,hR'⟩:=hq;exact ih s' e' w' hR' h2 a' he'
      | inr r' =>
        cases h2
        cases x with
        | normal=>exact hq.1.elim
        | _=>exact⟨hc,e',he',hq.2⟩
  exact fun a ha=>wp_loop_rounds N (key N s e w hR h a ha)
def DI(args:Array Value):Env:=fun i=>args.getD i undef
def dE(P:Program)(e:Env)(w:World):ResultVar->Value->Prop
  | .tmp t,v=>e t=v
  | .cell a T,v=>∃ad,e a=.pointer (some ad)/\(loadVar T ad).run P w=.ok v w
def gL(P:Program)(rs:Array ResultVar)(e:Env)(w:World)(v:Value):Prop:=∀(fn:Func) (tmps:Array Value),fn.results=rs->(∀i,tmps.getD i undef=e i)->(results fn tmps).run P w=.ok v w
def A5(tmps:Array Value):ResultVar->Sem Value
  | .tmp t=>pure (tmps.getD t undef)
  | .cell a t=>do loadVar t (<- asAddr (tmps.getD a undef))
theorem tE(fn:Func)(tmps:Array Value):results fn tmps=(do
    let vs<-fn.results.mapM (A5 tmps)
    pure (if h:vs.size=1 then vs[0]else .tuple vs)):=by
  unfold results;congr 2
theorem o9{tmps:Array Value}(h2:∀i,tmps.getD i undef=e i){r:ResultVar}{v:Value}(h:dE P e w r v):(A5 tmps r).run P w=.ok v w:=by
  cases r with
  | tmp t=>rw[<- (show e t=v from h), <- h2 t];simp[A5]
  | cell a t =>
    obtain⟨ad,h1,h3⟩:=h;rw[<- h2 a]at h1;simp only[A5,h1,asAddr];simpa using h3
theorem gL.zero:gL P #[] e w (.tuple #[]):=fun fn tmps h1 h2=>by simp[tE,h1]
theorem gL.one{r:ResultVar}{v:Value}(h:dE P e w r v):gL P #[r] e w v:=fun fn tmps h1 h2=>by
  have:=o9 h2 h;simp[tE,h1,this]
theorem gL.two{r s:ResultVar}{u v:Value}(h:dE P e w r u)(k:dE P e w s v):gL P #[r,s] e w (.tuple #[u,v]):=fun fn tmps h1 h2=>by
  have:=o9 h2 h;have:=o9 h2 k;simp[tE,h1, *]
theorem gL.three{r s t:ResultVar}{u v x:Value}(h:dE P e w r u)(k:dE P e w s v)(l:dE P e w t x):gL P #[r,s,t] e w (.tuple #[u,v,x]):=fun fn tmps h1 h2=>by
  have:=o9 h2 h;have:=o9 h2 k;have:=o9 h2 l;simp[tE,h1, *]
theorem gL.four{r s t q:ResultVar}{u v x y:Value}(h:dE P e w r u)(k:dE P e w s v)(l:dE P e w t x)(m:dE P e w q y):gL P #[r,s,t,q] e w (.tuple #[u,v,x,y]):=fun fn tmps h1 h2=>by
  have:=o9 h2 h;have:=o9 h2 k;have:=o9 h2 l;have:=o9 h2 m;simp[tE,h1, *]
theorem dE.t{t:Nat}{v:Value}(h:e t=v):dE P e w (.tmp t) v:=h
theorem dE.b{w0:World}{F0:List Nat}{L:List Item}{a T:Nat}{m g:Nat}{bt:TypeId}{cs:List Value}(hS:St w0 F0 w L)(i:Nat)(hi:L[i]?=some (bx g bt cs))(ht:fx P T=some (some m))(ha:e a=.pointer (some ⟨g,0,none⟩))(hm:cs.length=m):dE P e w (.cell a T) (.agg cs.toArray):=by
  have hl:=fv.agg (P:=P) (ρ:=ev e) (x:=.tmp a) (o:=0) (cs:=cs) ht ha hm;refine ⟨_,ha,?_⟩;have h1:=hl none 0 "" #[] none w (fun j u hu=>by rw [cell_of_row w g _ cs.toArray bt (0,0) (St.cell (h:=hS) hi)];simpa using hu);have ha':ev e (.tmp a)=.pointer (some ⟨g,0,none⟩):=ha;simp only [execOp,Instr.loadAt,ha',Instr.sureAddr] at h1
  cases hr:(loadVar T ⟨g,0,none⟩).run P w with
  | ok v w'=>simp[hr]at h1;obtain⟨h2,h3⟩:=h1;subst h2;subst h3;rfl
  | halt x w'=>simp[hr]at h1
theorem di.of{f:FuncId}{fn:Func}{c:Code}{args:Array Value}{K:Value->World->Prop}(hf:P.funcs[f]?=some fn)(hb:fn.body=some c)(hn:fn.ntmps=n)(ha:Nat.ble args.size n=true)
    (h:CW P n c (fun x e' w'=>(match x with|.ret=>True|.normal=>True|_=>False)/\∃v,gL P fn.results e' w' v/\K v w') (DI args) w):di P f args w K:=by
  have ha:=Nat.le_of_ble_eq_true ha;refine calls_of_wp hf hb (Code.wp_mono ?_ (h _ ⟨rfl,?_,fun i=>?_⟩))
  · rintro x a w' ⟨hc,e',he',hx,v,hr,hk⟩;have hres:=hr fn a.tmps rfl he'.get
    cases x with
    | normal=>exact⟨he'.defers,v,hres,hk⟩
    | ret=>exact⟨he'.defers,v,hres,hk⟩
    | _=>exact hx.elim
  · simp[hn];omega
  · unfold DI;simp only[Array.getD_eq_getD_getElem?,Array.getElem?_append];split
    · rfl
    · rename_i hi;rw[Array.getElem?_eq_none (xs:=args) (by omega)]
      by_cases hj:i-args.size<fn.ntmps-args.size
      · rw[Array.getElem?_replicate,if_pos hj];rfl
      · rw[Array.getElem?_replicate,if_neg hj]
end
theorem eH.ky{α:Type}[dp α]{M:List Item}{w:World}{F:List Nat}{S:Nat->Prop}(h:eH M w F)(i:Nat){a:Option Addr}{c:Nat}{l:List α}(hi:M[i]?=some (sl a c l))(hS:∀b,b∈F->S b):dX S w a c l:=by
  obtain⟨Fi,q1,q2⟩:=h.at_ i hi;exact jA.rd q1 fun b hb=>hS b (q2 b hb)
def dz(b:Int):Option Unit:=if b=0 then none else some ()
theorem AY{b:Int}{u:Unit}(h:dz b=some u):b ≠ 0:=by unfold dz at h;split at h<;>simp_all
theorem BA{w:World}{b o:Nat}{cs:List Value}(h:∀(j:Nat) (u:Value),cs[j]?=some u->w.cell? ⟨b,o+j,none⟩=some u)(k:Nat){m j:Nat}{u:Value}(hu:((cs.drop k).take m)[j]?=some u):w.cell? ⟨b,o+k+j,none⟩=some u:=by
  rw[List.getElem?_take]at hu;split at hu
  · rw[List.getElem?_drop]at hu;rw[Nat.add_assoc];exact h _ u hu
  · cases hu
theorem dx{α:Type}{l y:List α}{k:Nat}{x:α}(h:l.set k x=y):l.length=y.length:=by rw[<- h,List.length_set]
section
variable {P:Program} {w0 w:World} {F0:List Nat} {L:List Item} {α:Type} [dp α]
theorem St.rB{a:Option Addr}{c:Nat}{l:List α}(h:St w0 F0 w L)(hr:dX (eJ w0 F0) w0 a c l):dX (eJ w []) w a c l :=
  (h.P7 hr).mono fun b hb=>⟨Nat.lt_of_lt_of_le hb.1 h.size,by simp⟩
theorem St.rI{a:Option Addr}{c:Nat}{l:List α}(h:St w0 F0 w L)(i:Nat)(hi:L[i]?=some (sl a c l)):dX (eJ w []) w a c l:=by
  obtain⟨F,hF,_,hb⟩:=h.own;obtain⟨Fi,q,q2⟩:=hF.at_ i hi;exact jA.rd q fun b hbm=>⟨(hb b (q2 b hbm)).2,by simp⟩
theorem St.nil(h:St w0 F0 w L):St w0 F0 w (sl none 0 ([]:List α)::L):=by
  obtain⟨F,hF,hn,hb⟩:=h.own;exact⟨h.os,h.tape,h.output,h.size,h.same,F,⟨[],F,rfl,.inl ⟨rfl,rfl,rfl,rfl⟩,hF⟩,hn,hb⟩
def iK{β:Type}(L:List β):List Nat->Option (List β)
  | []=>some []
  | i::r=>match L[i]?,iK L r with
    | some x,some m=>some (x::m)
    | _,_=>none
def oF:List Nat->Bool
  | []=>true
  | i::r=>(r.all fun j=>!Nat.beq i j)&&oF r
theorem eH.parts:∀{L:List Item} {w:World} {F:List Nat},eH L w F->F.Nodup->∃G:Nat->List Nat,
    (∀(i:Nat) (it:Item),L[i]?=some it->it.p w (G i)/\(G i).Nodup/\∀b,b∈G i->b∈F)/\∀(i j:Nat),i ≠ j->i<L.length->j<L.length->∀b,b∈G i->b∉G j
  | [],w,F,_,_=>⟨fun _=>[],fun i it h=>by simp at h,fun i j _ h=>by simp at h⟩
  | x::L,w,F,⟨F1,F2,hF,h1,h2⟩,hn=>by
    subst hF;obtain⟨n1,n2,nd⟩:=List.nodup_append.1 hn;obtain⟨G,g1,g2⟩:=eH.parts h2 n2;have gin:∀(i:Nat),i<L.length->∀b,b∈G i->b∈F2:=fun i hi b hb=>(g1 i _ (List.getElem?_eq_getElem hi)).2.2 b hb;refine⟨fun i=>match i with|0=>F1|i+1=>G i,fun i it hi=>?_,fun i j hij hi hj b hb=>?_⟩
    · cases i with
      | zero=>simp at hi;subst hi;exact⟨h1,n1,fun b hb=>List.mem_append_left _ hb⟩
      | succ i =>
        obtain⟨q1,q2,q3⟩:=g1 i it (by simpa using hi);exact⟨q1,q2,fun b hb=>List.mem_append_right _ (q3 b hb)⟩
    · cases i with
      | zero =>
        cases j with
        | zero=>exact absurd rfl hij
        | succ j=>exact fun hb2=>nd b hb b (gin j (by simpa using hj) b hb2) rfl
      | succ i =>
        cases j with
        | zero=>exact fun hb2=>nd b hb2 b (gin i (by simpa using hi) b hb) rfl
        | succ j=>exact g2 i j (fun e=>hij (by rw[e])) (by simpa using hi) (by simpa using hj) b hb
theorem St.pick(is:List Nat){M:List Item}(h:St w0 F0 w L)(hp:iK L is=some M)(hn:oF is=true):St w0 F0 w M:=by
  obtain⟨F,hF,hnd,hb⟩:=h.own;obtain⟨G,g1,g2⟩:=hF.parts hnd
  have key:∀(is:List Nat) (M:List Item),iK L is=some M->oF is=true->∃F',eH M w F'/\F'.Nodup/\(∀b,b∈F'->b∈F)/\(∀b,b∈F'->∃i,i∈is/\i<L.length/\b∈G i):=by
    intro is
    induction is with
    | nil =>
      intro M hp _;cases hp;exact⟨[],rfl,List.nodup_nil,by simp,by simp⟩
    | cons i r ih =>
      intro M hp hn;simp only[oF,RP,List.all_eq_true]at hn;simp only[iK]at hp;split at hp
      · rename_i x m hx hm;cases hp;obtain⟨F',q1,q2,q3,q4⟩:=ih m hm hn.2;obtain⟨p1,p2,p3⟩:=g1 i x hx;have hlt:=eF hx;refine⟨G i++F',⟨G i,F',rfl,p1,q1⟩,List.nodup_append.2 ⟨p2,q2,fun a ha b hb e=>?_⟩,fun b hb=>?_,fun b hb=>?_⟩
        · subst e;obtain⟨j,hj,hjl,hja⟩:=q4 a hb
          have hne:i ≠ j:=by
            rintro rfl;have:=hn.1 i hj;simp at this
          exact g2 i j hne hlt hjl a ha hja
        · rcases List.mem_append.1 hb with h|h
          · exact p3 b h
          · exact q3 b h
        · rcases List.mem_append.1 hb with h|h
          · exact⟨i,by simp,hlt,h⟩
          · obtain⟨j,hj,hjl,hja⟩:=q4 b h;exact⟨j,by simp[hj],hjl,hja⟩
      · cases hp
  obtain⟨F',q1,q2,q3,_⟩:=key is M hp hn;exact⟨h.os,h.tape,h.output,h.size,h.same,F',q1,q2,fun b hbm=>hb b (q3 b hbm)⟩
end
theorem CW.cut{P:Program}{n:Nat}{c:Code}{Q:iO}{e:Env}{w:World}(M:Env->World->Prop)(h1:CW P n c (tY M Q) e w)(h2:∀e w,M e w->Q .normal e w):CW P n c Q e w :=
  h1.mono fun x e w hq=>by cases x<;>first|exact h2 _ _ hq|exact hq
def fz(w1:World)(F:List Nat):Item:=⟨fun w G=>G=F/\∀b,b∈F->w.heap[b]?=w1.heap[b]?,fun w w' G h hb=>⟨h.1,fun b hm=>(hb b (h.1 ▸ hm)).trans (h.2 b hm)⟩⟩
section
variable {P:Program} {w0 w w1:World} {F0 F:List Nat} {L:List Item} {α:Type} [dp α]
theorem St.freeze{a:Option Addr}{c:Nat}{l:List α}(h:St w0 F0 w L)(i:Nat)(hi:L[i]?=some (sl a c l)):∃F,jA w a c F l/\St w0 F0 w (L.set i (fz w F)):=by
  have h':St w0 F0 w ([sl a c l]++L.eraseIdx i):=h.front i hi;obtain⟨F,hF,hn,hlt,_,_,hm⟩:=h'.share;obtain⟨F1,F2,rfl,q1,q2⟩:=hF;cases(show F2=[] from q2);rw[List.append_nil]at hn hlt hm;exact⟨F1,q1,(hm w [fz w F1] (St.init ⟨F1,[],by simp,⟨rfl,fun _ _=>rfl⟩,rfl⟩ hn hlt)).perm (eraseIdx_set L i _ (eF hi))⟩
theorem St.dZ{a:Option Addr}{c:Nat}{l:List α}(h:St w0 F0 w L)(i:Nat)(hi:L[i]?=some (fz w1 F))(ho:jA w1 a c F l):St w0 F0 w (L.set i (sl a c l)) :=
  h.setAt hi fun G hG hn hlt=>by
    obtain⟨rfl,hb⟩:=hG;exact St.init ⟨G,[],by simp,ho.frame hb,rfl⟩ hn hlt
theorem St.zC(h:St w0 F0 w L)(i:Nat)(hi:L[i]?=some (fz w1 F)){b:Nat}(hb:b∈F):w.heap[b]?=w1.heap[b]?:=by
  obtain⟨G,hG,_,_⟩:=h.own;obtain⟨Fi,q,_⟩:=hG.at_ i hi;exact q.2 b hb
theorem St.rZ{a:Option Addr}{c:Nat}{l:List α}(h:St w0 F0 w L)(i:Nat)(hi:L[i]?=some (fz w1 F))(hr:dX (fun b=>b∈F) w1 a c l):dX (eJ w []) w a c l:=by
  obtain⟨G,hG,_,hb⟩:=h.own;obtain⟨Fi,q,q2⟩:=hG.at_ i hi;obtain⟨rfl,q3⟩:=q;exact(hr.iS fun b hm=>q3 b hm).mono fun b hm=>⟨(hb b (q2 b hm)).2,by simp⟩
theorem jA.fe{a:Option Addr}{c:Nat}{l:List α}(h:jA w1 a c F l):dX (fun b=>b∈F) w1 a c l:=h.rd fun b hb=>hb
end
theorem whole{α:Type}[dp α]{M:List Item}{vs:List Value}{z y:α}(h:∀(w:World) (G:List Nat),eH M w G->dp.own w vs G y):
    ∀(w:World) (cs:List Value) (F G:List Nat),dp.own w cs F z->eH M w G->∃F',dp.own w (cs.take 0++vs++cs.drop (0+vs.length)) F' y/\(∀b,b∈F'->b∈F\/b∈G)/\(F.Nodup->G.Nodup->(∀b,b∈F->b∉G)->F'.Nodup):=by
  intro w cs F G hF hG;have h1:=h w G hG
  have e:cs.take 0++vs++cs.drop (0+vs.length)=vs:=by
    rw[List.drop_eq_nil_of_le (by rw[dp.eQ h1,dp.eQ hF];omega)];simp
  exact⟨G,by rw[e];exact h1,fun b hb=>.inr hb,fun _ hn _=>hn⟩
theorem fK{α:Type}[dp α]{o:Nat}{vs:List Value}{z y:α}(h:∀(w:World) (cs:List Value) (F:List Nat),dp.own w cs F z->dp.own w (cs.take o++vs++cs.drop (o+vs.length)) F y):
    ∀(w:World) (cs:List Value) (F G:List Nat),dp.own w cs F z->eH [] w G->∃F',dp.own w (cs.take o++vs++cs.drop (o+vs.length)) F' y/\(∀b,b∈F'->b∈F\/b∈G)/\(F.Nodup->G.Nodup->(∀b,b∈F->b∉G)->F'.Nodup) :=
  fun w cs F G hF _=>⟨F,h w cs F hF,fun b hb=>.inl hb,fun hn _ _=>hn⟩
theorem Kept.n{ops:Array Oper}{i:Nat}{w w':World}:Kept ops i [] w w':=fun p hp=>by cases hp
theorem Kept.c{ops:Array Oper}{i j:Nat}{C:World->Prop}{E:nG}{w w':World}(h:C w')(k:Kept ops i E w w'):Kept ops i ((j,C)::E) w w':=fun p hp hw hc=>by
  rcases List.mem_cons.1 hp with rfl|hp
  · exact h
  · exact k p hp hw hc
theorem Kept.w{ops:Array Oper}{i j:Nat}{C:World->Prop}{E:nG}{w w':World}(h:waits ops i j=true)(k:Kept ops i E w w'):Kept ops i ((j,C)::E) w w':=fun p hp hw hc=>by
  rcases List.mem_cons.1 hp with rfl|hp
  · rw[h]at hw;cases hw
  · exact k p hp hw hc
section
variable {P:Program} {n:Nat} {t:TypeId} {xs ys:Array Value} {u v a b:Value} {r q:Bool}
def ki(P:Program)(n:Nat)(t:TypeId)(u v:Value)(r:Bool):Prop:=∀(d:Nat) (w:World),(Op.equalIn (d+n+1) t u v).run P w=.ok r w
def lG(P:Program)(n:Nat)(xs ys:Array Value)(fs:List Field)(r:Bool):Prop:=∀(d:Nat) (w:World),(Op.eqFields (d+n+1) xs ys fs).run P w=.ok r w
theorem ki.int{k k':IntKind}{x y:Int}(h:P.underlying t=some (.int k')):ki P n t (.int k x) (.int k y) (x==y):=fun _ w=>run_equalIn_int w _ t k k' x y h
theorem ki.bool{x y:Bool}(h:P.underlying t=some .bool):ki P n t (.bool x) (.bool y) (x==y):=fun _ w=>run_equalIn_bool' w _ t x y h
theorem ki.agg{fs:Array Field}(h:P.underlying t=some (.struct fs))(hp:P.stoodInHeld t=false)(hf:lG P n xs ys fs.toList r):ki P (n+1) t (.agg xs) (.agg ys) r:=fun d w=>by
  have e:P.fieldsOf t=fs:=by simp[Program.fieldsOf,h]
  have:=run_equalIn_agg (P:=P) w (d+n+1) t xs ys (by rw[e];exact h) hp;rw[e,hf d w]at this;exact this
theorem lG.nil:lG P n xs ys [] true:=fun _ _=>rfl
theorem lG.one{f:Field}{fs:List Field}(hn:(f.name=="_")=false)(ha:fx P f.type=some none)(hx:wv xs.toList f.offset=some a)(hy:wv ys.toList f.offset=some b)(h:ki P n f.type a b r)
    (h2:lG P n xs ys fs q):lG P n xs ys (f::fs) (r&&q):=fun d w=>by
  have hx:xs[f.offset]?=some a:=by rw[x6]at hx;simpa using hx
  have hy:ys[f.offset]?=some b:=by rw[x6]at hy;simpa using hy
  have hn:f.name ≠ "_":=by simpa using hn
  have:=h d w;have:=h2 d w;cases r<;>simp_all [Op.eqFields,part,(nX (w:=w) ha).1]
theorem lG.more{f:Field}{fs:List Field}{m:Nat}(hn:(f.name=="_")=false)(ha:fx P f.type=some (some m))
    (h:ki P n f.type (.agg (xs.extract f.offset (f.offset+m))) (.agg (ys.extract f.offset (f.offset+m))) r) (h2:lG P n xs ys fs q):lG P n xs ys (f::fs) (r&&q):=fun d w=>by
  have hn:f.name ≠ "_":=by simpa using hn
  have:=h d w;have:=h2 d w;have h3:=nX (w:=w) ha;cases r<;>simp_all [Op.eqFields,part]
theorem ki.top{p:Prop}[Decidable p](h:ki P n t u v r)(hn:n<10000)(hp:r=decide p)(w:World):(Op.equalIn 10000 t u v).run P w=.ok (decide p) w:=by
  have h:=h (10000-n-1) w;rw[show 10000-n-1+n+1=10000 from by omega,hp]at h;exact h
end
theorem CW.fresh{P:Program}{n:Nat}{c:Code}{Q:iO}{e:Env}{w:World}{l:List (Nat×Value)}(h:En e l)(k:∀e',CW P n c Q (dF e' l) w):CW P n c Q e w:=by
  obtain⟨e',rfl⟩:=h.out;exact k e'
theorem LW.fresh{P:Program}{n:Nat}{oa:Array Oper}{ops:List Oper}{Q:iO}{e:Env}{w:World}{l:List (Nat×Value)}(h:En e l)(k:∀e',LW P n oa Q ops (dF e' l) w):LW P n oa Q ops e w:=by
  obtain⟨e',rfl⟩:=h.out;exact k e'
theorem AW.fresh{P:Program}{n:Nat}{ops:Array Oper}{Q:iO}{f:Nat}{E:nG}{li:Array Bool}{e:Env}{w:World}{l:List (Nat×Value)}(h:En e l)(k:∀e',AW P n ops Q f E li (dF e' l) w):AW P n ops Q f E li e w:=by
  obtain⟨e',rfl⟩:=h.out;exact k e'
section
variable {P:Program} {w0 w w1:World} {F0 F:List Nat} {L M:List Item} {α:Type} [dp α]
structure mG (w0:World) (F0:List Nat) (w:World) (L M:List Item) (F:List Nat):Prop where
  st:St w F w L
  Qk:∀b,eJ w0 F0 b->eJ w F b/\w.heap[b]?=w0.heap[b]?
  rest:∀(i:Nat) (it:Item),M[i]?=some it->∃Fi,it.p w Fi/\∀b,b∈Fi->eJ w F b
  back:∀w' L',St w F w' L'->St w0 F0 w' (L'++M)
theorem St.Pb(h:St w0 F0 w (L++M)):∃F,mG w0 F0 w L M F:=by
  obtain⟨F,h1,h2,h3,h4,h5,h6⟩:=h.share;exact⟨F,⟨St.init h1 h2 h3,fun b hb=>⟨h4 b hb,h.same b hb.1 hb.2⟩,h5,h6⟩⟩
theorem mG.rB{a:Option Addr}{c:Nat}{l:List α}(h:mG w0 F0 w L M F)(hr:dX (eJ w0 F0) w0 a c l):dX (eJ w F) w a c l :=
  (hr.iS fun b hb=>(h.Qk b hb).2).mono fun b hb=>(h.Qk b hb).1
theorem mG.rI{a:Option Addr}{c:Nat}{l:List α}(h:mG w0 F0 w L M F)(i:Nat)(hi:M[i]?=some (sl a c l)):dX (eJ w F) w a c l:=by
  obtain⟨Fi,q,q2⟩:=h.rest i _ hi;exact jA.rd q q2
theorem mG.rZ{Fz:List Nat}{a:Option Addr}{c:Nat}{l:List α}(h:mG w0 F0 w L M F)(i:Nat)(hi:M[i]?=some (fz w1 Fz))(hr:dX (fun b=>b∈Fz) w1 a c l):dX (eJ w F) w a c l:=by
  obtain⟨Fi,q,q2⟩:=h.rest i _ hi;obtain⟨rfl,q3⟩:=q;exact(hr.iS fun b hm=>q3 b hm).mono fun b hm=>q2 b hm
def hole(α:Type)[dp α](a:Option Addr)(c:Nat)(l:List α)(k:Nat)(cs:List Value):Item :=
  ⟨fun w F=>∃g o cur G0 G2 c0 c2,a=some ⟨g,o,none⟩/\w.heap[g]?=some (.cells cur (dp.ty α) (0,0))/\o+c*dp.sz α<=cur.size/\l.length<=c/\c<=maxLen/\F=g::(G0++G2) /\
      cur.toList.drop o=c0++(cs++c2)/\c0.length=k*dp.sz α/\cs.length=dp.sz α/\k<l.length/\o<=cur.size /\
      ∀(w':World) (d1:List Value) (G1:List Nat) (y:α),dp.own w' d1 G1 y->(∀b,b∈G0++G2->w'.heap[b]?=w.heap[b]?)->fQ w' (c0++(d1++c2)) (G0++(G1++G2)) (l.set k y),
   by
    rintro w w' F ⟨g,o,cur,G0,G2,c0,c2,ha,hg,h1,h2,h3,rfl,h4,h5,h6,h7,h8,h9⟩ hb
    exact⟨g,o,cur,G0,G2,c0,c2,ha,(hb g (by simp)).trans hg,h1,h2,h3,rfl,h4,h5,h6,h7,h8,
      fun w'' d1 G1 y hy hh=>h9 w'' d1 G1 y hy fun b hm=>(hh b hm).trans (hb b (List.mem_cons_of_mem _ hm))⟩⟩
theorem JP{c1 cs:List Value}{f:Nat->Option Value}(hl:c1.length=cs.length)(h1:∀j u,c1[j]?=some u->f j=some u)(h2:∀j u,cs[j]?=some u->f j=some u):c1=cs:=by
  apply List.ext_getElem?;intro j
  by_cases hj:j<c1.length
  · have a1:=h1 j _ (List.getElem?_eq_getElem hj);have a2:=h2 j _ (List.getElem?_eq_getElem (hl ▸ hj));rw[List.getElem?_eq_getElem hj,List.getElem?_eq_getElem (hl ▸ hj)];exact a1.symm.trans a2
  · rw[List.getElem?_eq_none (by omega),List.getElem?_eq_none (by omega)]
theorem St.Mq{w0 w:World}{F0:List Nat}{L M:List Item}{i:Nat}{y:Item}(h:St w0 F0 w ((M++[y])++L.eraseIdx i))(hi:i<L.length):St w0 F0 w (M++L.set i y) :=
  h.perm (by rw[List.append_assoc];exact(eraseIdx_set L i y hi).append_left M)
theorem St.focus{c b o:Nat}{l:List α}{k:Int}{x:α}{cs:List Value}(h:St w0 F0 w L)(i:Nat)(hi:L[i]?=some (sl (some ⟨b,o,none⟩) c l))(hx:idx l k=some x)(hl:cs.length=dp.sz α)
    (hcs:∀(j:Nat) (u:Value),cs[j]?=some u->w.cell? ⟨b,o+k.toNat*dp.sz α+j,none⟩=some u) :
    ∃Fx,dp.own w cs Fx x/\∀M,eH M w Fx->St w0 F0 w (M++L.set i (hole α (some ⟨b,o,none⟩) c l k.toNat cs)):=by
  obtain⟨Fi,ho,hS⟩:=h.freeze i hi;unfold Kx.idx at hx;split at hx
  case isFalse=>cases hx
  case isTrue h0 =>
  have hlt:=eF hx
  rcases ho with⟨_,_,rfl,_⟩|⟨g,o',cur,F',ha,hg,hs,h1,h2,hF,he⟩
  · simp at hlt
  · cases ha;obtain⟨c0,c1,c2,G0,G1,G2,hc,rfl,hl0,q1,q2⟩:=he.set k.toNat hx;have hl1:=dp.eQ q1
    have e:c1=cs:=by
      refine JP (f:=fun j=>w.cell? ⟨b,o+k.toNat*dp.sz α+j,none⟩) (hl1.trans hl.symm) (fun j u hu=>?_) hcs;have hj:j<c1.length:=eF hu
      show w.cell? _=_
      rw[cell_of_row w b _ cur _ (0,0) hg,Nat.add_assoc]
      have:(cur.toList.drop o)[k.toNat*dp.sz α+j]?=some u:=by
        rw[hc,List.getElem?_append_right (by omega),hl0,Nat.add_sub_cancel_left,List.getElem?_append_left hj];exact hu
      rw[List.getElem?_drop]at this;simpa using this
    subst e
    have hoc:o<=cur.size:=by omega
    refine⟨G1,q1,fun M hM=>St.Mq (St.head (x:=fz w Fi) (M:=M++[_]) (hS.front i (by rw[List.getElem?_set_self (eF hi)])) fun G hG hn hlt2=>?_ ) (by simpa using eF hi) |> fun q=>by simpa using q⟩;obtain⟨rfl,_⟩:=hG;subst hF;obtain⟨hgn,hnd⟩:=List.nodup_cons.1 hn;obtain⟨n0,n12,d0⟩:=List.nodup_append.1 hnd;obtain⟨n1,n2,d12⟩:=List.nodup_append.1 n12;refine⟨rfl,rfl,rfl,Nat.le_refl _,fun _ _ _=>rfl,G1++(b::(G0++G2)),eH.append.2 ⟨G1,_,rfl,hM,_,[],by simp,⟨b,o,cur,G0,G2,c0,c2,rfl,hg,hs,h1,h2,rfl,hc,hl0,hl,hlt,hoc,q2⟩,rfl⟩,?_,?_⟩
    · refine List.nodup_append.2 ⟨n1,List.nodup_cons.2 ⟨fun hm=>hgn ?_,List.nodup_append.2 ⟨n0,n2,fun a ha d hd e=>d0 a ha d (List.mem_append_right _ hd) e⟩⟩,fun a ha d hd e=>?_⟩
      · rcases List.mem_append.1 hm with q|q<;>simp[q]
      · subst e
        rcases List.mem_cons.1 hd with rfl|hd
        · exact hgn (by simp[ha])
        · rcases List.mem_append.1 hd with q|q
          · exact d0 a q a (List.mem_append_left _ ha) rfl
          · exact d12 a ha a q rfl
    · intro d hd
      have:d∈b::(G0++(G1++G2)):=by
        simp only[List.mem_append,List.mem_cons]at hd⊢
        rcases hd with q|q|q|q<;>simp[q]
      exact⟨.inl this,hlt2 d this⟩
theorem St.xp{b o c k:Nat}{l:List α}{cs:List Value}(h:St w0 F0 w L)(i:Nat)(hi:L[i]?=some (hole α (some ⟨b,o,none⟩) c l k cs)){j:Nat}{u:Value}(hu:cs[j]?=some u):w.cell? ⟨b,o+k*dp.sz α+j,none⟩=some u:=by
  obtain⟨F,hF,_,_⟩:=h.own;obtain⟨Fi,⟨g,o',cur,G0,G2,c0,c2,ha,hg,_,_,_,_,h4,h5,h6,_⟩,_⟩:=hF.at_ i hi;cases ha;have hj:=eF hu;rw[cell_of_row w b _ cur _ (0,0) hg,Nat.add_assoc]
  have:(cur.toList.drop o)[k*dp.sz α+j]?=some u:=by
    rw[h4,List.getElem?_append_right (by omega),h5,Nat.add_sub_cancel_left,List.getElem?_append_left hj];exact hu
  rw[List.getElem?_drop]at this;simpa using this
theorem St.NX{a:Option Addr}{c k:Nat}{l:List α}{cs:List Value}{y:α}(h:St w0 F0 w (M++L))(i:Nat)(hi:L[i]?=some (hole α a c l k cs))(hM:∀(w:World) (G:List Nat),eH M w G->dp.own w cs G y):
    St w0 F0 w (L.set i (sl a c (l.set k y))):=by
  have h':St w0 F0 w ((M++[hole α a c l k cs])++L.eraseIdx i):=by
    refine h.perm ?_;rw[List.append_assoc];exact(u6 L i _ hi).append_left M
  obtain⟨F,hF,hn,hlt,_,_,hm⟩:=h'.share;refine(hm w [sl a c (l.set k y)] ?_).perm (eraseIdx_set L i _ (eF hi));obtain⟨F1,F2,rfl,q1,F3,F4,rfl,⟨g,o,cur,G0,G2,c0,c2,ha,hg,h1,h2,h3,rfl,h4,h5,h6,h7,h8,h9⟩,q4⟩:=eH.append.1 hF;cases(show F4=[] from q4);have hE:=h9 w cs F1 y (hM w F1 q1) (fun _ _=>rfl);rw[List.append_nil]at hn hlt⊢;obtain⟨n1,n2,nd⟩:=List.nodup_append.1 hn;obtain⟨m1,m2⟩:=List.nodup_cons.1 n2;obtain⟨k0,k2,kd⟩:=List.nodup_append.1 m2;refine⟨rfl,rfl,rfl,Nat.le_refl _,fun _ _ _=>rfl,g::(G0++(F1++G2)),⟨g::(G0++(F1++G2)),[],(List.append_nil _).symm,.inr ⟨g,o,cur,_,ha,hg,h1,by simpa using h2,h3,rfl,?_⟩,rfl⟩,?_,?_⟩
  · rw[h4];exact hE
  · refine List.nodup_cons.2 ⟨fun hm=>?_,List.nodup_append.2 ⟨k0,List.nodup_append.2 ⟨n1,k2,fun p hp d hd e=>nd p hp d (by simp[hd]) e⟩,fun p hp d hd e=>?_⟩⟩
    · simp only[List.mem_append]at hm
      rcases hm with q|q|q
      · exact m1 (by simp[q])
      · exact nd g q g (by simp) rfl
      · exact m1 (by simp[q])
    · subst e
      rcases List.mem_append.1 hd with q|q
      · exact nd p q p (by simp[hp]) rfl
      · exact kd p hp p q rfl
  · intro d hd
    have:d∈F1++(g::(G0++G2)):=by
      simp only[List.mem_append,List.mem_cons]at hd⊢
      rcases hd with q|q|q|q<;>simp[q]
    exact⟨.inl this,hlt d this⟩
end
section
variable {P:Program} {w0 w w1:World} {F0 F:List Nat} {L M:List Item} {α:Type} [dp α]
variable {n:Nat} {Q:iO} {e:Env} {ops:Array Oper} {rest:List Oper} {ty:TypeId} {pos:String} {aft:Array Edge} {d:Nat} {v:Value}
theorem LW.wh{t:TypeId}{x y:Operand}{av:Option Nat}{g o off j c k:Nat}{l:List α}{cs vs:List Value}(hS:St w0 F0 w L)(i:Nat)(hi:L[i]?=some (hole α (some ⟨g,o,none⟩) c l k cs))(ht:fx P t=some av)
    (hx:ev e x=.pointer (some ⟨g,off,none⟩)) (hoff:off=o+k*dp.sz α+j) (hy:(ev e y).cells.toList=vs) (hm:vs.length=av.getD 1) (hl:Nat.ble (j+vs.length) cs.length=true) (h1:vs.all (·.oneCell')=true)
    (h:∀w':World,St w0 F0 w' (L.set i (hole α (some ⟨g,o,none⟩) c l k (xS cs j vs)))->Fr w w' [g]->LW P n ops Q rest e w'):LW P n ops Q (⟨none,.store t x y,ty,pos,aft,none⟩::rest) e w:=by
  subst hoff;have hl:=Nat.le_of_ble_eq_true hl;obtain⟨Fa,hFa,_,_⟩:=hS.own;obtain⟨Fi,⟨g',o',cur,G0,G2,c0,c2,ha,hg,p1,p2,p3,rfl,p4,p5,p6,p7,p8,p9⟩,_⟩:=hFa.at_ i hi;cases ha
  have hlen:cur.size=o+(c0.length+(cs.length+c2.length)):=by
    have:=congrArg List.length p4;rw[List.length_drop,Array.length_toList]at this;simp only[List.length_append]at this;omega
  have hr:=run_storeCells_at P g (o+k*dp.sz α+j) (dp.ty α) vs 0 cur w hg (by omega) (fun u hu=>List.all_eq_true.1 h1 u hu);simp only[Nat.add_zero]at hr
  have hto:(cur.toList.take o).length=o:=by rw[List.length_take,Array.length_toList];omega
  have hcc:cur.toList=(cur.toList.take o++c0)++(cs++c2):=by rw[List.append_assoc, <- p4,List.take_append_drop]
  have hspl:cur.toList.take (o+k*dp.sz α+j)++vs++cur.toList.drop (o+k*dp.sz α+j+vs.length)=(cur.toList.take o++c0)++(xS cs j vs++c2):=by
    have hl0:(cur.toList.take o++c0).length=o+k*dp.sz α:=by rw[List.length_append,hto,p5]
    have:=Ht (cur.toList.take o++c0) cs c2 vs j hl;rw[<- hcc,hl0, <- AK cs j vs hl]at this;exact this
  have hsl:(xS cs j vs).length=cs.length:=by rw[AK cs j vs hl];simp;omega
  refine LW.B2 (w':=w.setRow g (cur.toList.take (o+k*dp.sz α+j)++vs++cur.toList.drop (o+k*dp.sz α+j+vs.length)).toArray) ?_ (h _ (hS.setAt hi fun G hG hn hlt=>?_) ⟨by simp,fun b _ hb=>setRow_other w g b _ (by simpa using hb)⟩)
  · have:=nX (w:=w) ht
    have hy2:(ev e y).cells.size=av.getD 1:=by rw[<- hm, <- hy,Array.length_toList]
    simp[execOp,Instr.storeAt,Instr.sureAddr,hx,storeVar,hy,hy2,this.2,hr]
  · obtain⟨g',o',cur',G0',G2',c0',c2',ha,hg',q1,q2,q3,rfl,q4,q5,q6,q7,q8,q9⟩:=hG;cases ha;rw[hg]at hg';cases hg';have hoth:∀b,b ≠ g->(w.setRow g (cur.toList.take (o+k*dp.sz α+j)++vs++cur.toList.drop (o+k*dp.sz α+j+vs.length)).toArray).heap[b]?=w.heap[b]?:=fun b hb=>setRow_other w g b _ hb;obtain⟨m1,m2⟩:=List.nodup_cons.1 hn
    have e1:c0=c0'/\c2=c2':=by
      rw[p4]at q4;have r1:=List.append_inj q4 (by omega);exact⟨r1.1,(List.append_inj r1.2 rfl).2⟩
    obtain⟨rfl,rfl⟩:=e1;refine⟨rfl,rfl,rfl,by simp,fun b _ hno=>hoth b fun e=>hno (by simp[e]),g::(G0'++G2'),⟨_,[],by simp,⟨g,o,_,G0',G2',c0,c2,rfl,setRow_heap w g cur _ _ _ hg,?_,q2,q3,rfl,?_,p5,by omega,p7,?_,?_⟩,rfl⟩,hn,fun b hb=>⟨.inl hb,by simpa using hlt b hb⟩⟩
    · rw[hspl];simp[hto,hsl];omega
    · simp only[List.toList_toArray];rw[hspl,List.append_assoc];exact List.drop_left' hto
    · rw[hspl];simp[hto]
    · intro w'' d1 G1 y' hy' hb;exact q9 w'' d1 G1 y' hy' fun b hm=>(hb b hm).trans (hoth b fun e=>m1 (e ▸ hm))
def sub{α:Type}(l:List α)(i j:Int):Option (List α):=if 0<=i/\i<=j/\j<=(l.length:Int)then some ((l.drop i.toNat).take (j.toNat-i.toNat))else none
theorem pc{α:Type}{l m:List α}{i j:Int}(h:sub l i j=some m):0<=i/\i<=j/\j<=(l.length:Int)/\m=(l.drop i.toNat).take (j.toNat-i.toNat)/\m.length=j.toNat-i.toNat:=by
  unfold sub at h;split at h
  · rename_i hc;cases h;obtain⟨h1,h2,h3⟩:=hc;exact⟨h1,h2,h3,rfl,by rw[List.length_take,List.length_drop];omega⟩
  · cases h
def MT(ρ:Operand->Value)(x:Option Operand)(d i:Int):Prop :=
  match x with
  | none=>i=d
  | some x=>∃k,ρ x=.int k i
theorem tq{ρ:Operand->Value}{d:Int}:MT ρ none d d:=rfl
theorem sL{ρ:Operand->Value}{x:Operand}{k:IntKind}{d i:Int}(h:ρ x=.int k i):MT ρ (some x) d i:=⟨k,h⟩
def lL(a:Option Addr)(c i m:Nat):Option Addr:=if c=i then a else a.map fun b=>b.add (i*m)
theorem dL.sub{ρ:Operand->Value}{t:TypeId}{x:Operand}{lo hi:Option Operand}{a:Option Addr}{c:Nat}{l m:List α}{i j:Int}(hT:P.underlying t=some (.slice (dp.ty α)))(hz:m4 P (dp.ty α)=some (dp.sz α))(hx:ρ x=.slice a l.length c)
    (hlo:MT ρ lo 0 i) (hhi:MT ρ hi (l.length:Int) j) (hs:Kx.sub l i j=some m) (hlc:l.length<=c) {a':Option Addr} {c':Nat} (e1:a'=lL a c i.toNat (dp.sz α)) (e2:c'=c-i.toNat):dL P ρ (.slice t x lo hi none) (.slice a' m.length c'):=by
  subst e1;subst e2;obtain⟨h1,h2,h3,rfl,hm⟩:=pc hs;intro d ty pos aft gd w;rw[hm]
  cases hi':P.info? (dp.ty α)with
  | none=>simp[m4,hi']at hz
  | some inf =>
    have hz':inf.size=dp.sz α:=by simpa[m4,hi']using hz
    have h4:0<=j:=by omega
    have h5:j<=(c:Int):=by omega
    have h6:i<=(j.toNat:Int):=by omega
    have hb:(Instr.sliceBounds true l.length c (lo.map ρ) (hi.map ρ) none).run P w=.ok (i.toNat,j.toNat,c) w:=by
      cases lo with
      | none =>
        cases(show i=0 from hlo)
        cases hi with
        | none =>
          cases(show j=_ from hhi);simp[Instr.sliceBounds]
        | some y =>
          obtain⟨k,hy⟩:=hhi;simp[Instr.sliceBounds,Instr.sliceBound,hy,asIntOf,h4,h5]
      | some x' =>
        obtain⟨k',hx'⟩:=hlo
        cases hi with
        | none =>
          cases(show j=_ from hhi);simp[Instr.sliceBounds,Instr.sliceBound,hx',asIntOf,h1,h3];omega
        | some y =>
          obtain⟨k,hy⟩:=hhi;simp[Instr.sliceBounds,Instr.sliceBound,hx',hy,asIntOf,h1,h4,h5];omega
    have hcu:(if c=i.toNat then a else a.map fun b=>b.add (i.toNat*inf.size))=lL a c i.toNat (dp.sz α):=by unfold lL;rw[hz']
    simp[execOp,Instr.sliceAt,Instr.slice,run_underlying hT,hx,hb,sizeOf,typeInfo,hi', <- hcu]
theorem dX.sub{S:Nat->Prop}{a:Option Addr}{c:Nat}{l m:List α}{i j:Int}(h:dX S w a c l)(hs:Kx.sub l i j=some m):dX S w (lL a c i.toNat (dp.sz α)) (c-i.toNat) m:=by
  obtain⟨h1,h2,h3,rfl,hm⟩:=pc hs;have hle:=h.le;refine⟨by rw[hm];omega,Nat.le_trans (Nat.sub_le _ _) h.cap,fun hne=>?_⟩;have hlen:0<((l.drop i.toNat).take (j.toNat-i.toNat)).length:=List.length_pos_iff.2 hne;obtain⟨b,o,rfl,hb,hc⟩:=h.cells (by rintro rfl;simp at hlen)
  have hci:¬ c=i.toNat:=by omega
  refine⟨b,o+i.toNat*dp.sz α,by unfold lL;rw[if_neg hci];simp[add_lit],hb,fun k x hx=>?_⟩;rw[List.getElem?_take]at hx;split at hx
  · rw[List.getElem?_drop]at hx;obtain⟨cs,q1,q2⟩:=hc _ x hx;refine⟨cs,q1,fun p u hu=>?_⟩;have:=q2 p u hu;rw[Nat.add_mul, <- Nat.add_assoc]at this;exact this
  · cases hx
theorem dX.tI{S:Nat->Prop}{a:Option Addr}{c:Nat}{l m:List α}{i j:Int}(h:dX S w a c l)(hs:Kx.sub l i j=some m):∃(a':Option Addr) (c':Nat),a'=lL a c i.toNat (dp.sz α)/\c'=c-i.toNat/\dX S w a' c' m :=
  ⟨_,_,rfl,rfl,h.sub hs⟩
theorem fQ.drop:∀(k:Nat) {l:List α} {cs:List Value} {F:List Nat},fQ w cs F l->∃F1 F2,F=F1++F2/\fQ w (cs.drop (k*dp.sz α)) F2 (l.drop k)
  | 0,_,_,F,h=>⟨[],F,rfl,by simpa using h⟩
  | k+1,[],cs,F,h=>⟨[],F,rfl,h⟩
  | k+1,x::l,cs,F,⟨c1,c2,F1,F2,hc,hF,h1,h2⟩=>by
    obtain⟨G1,G2,rfl,q⟩:=fQ.drop k h2;refine⟨F1++G1,G2,by simp[hF],?_⟩
    have e:cs.drop ((k+1)*dp.sz α)=c2.drop (k*dp.sz α):=by
      rw[hc,Nat.succ_mul,Nat.add_comm, <- dp.eQ h1,List.drop_length_add_append]
    rw[e];exact q
theorem fQ.Nd:∀(k:Nat) {l:List α} {cs:List Value} {F:List Nat},fQ w cs F l->∃F1 F2,F=F1++F2/\fQ w cs F1 (l.take k)
  | 0,l,_,F,h=>⟨[],F,rfl,by simp[fQ]⟩
  | k+1,[],cs,F,h=>⟨F,[],by simp,by simpa using h⟩
  | k+1,x::l,cs,F,⟨c1,c2,F1,F2,hc,hF,h1,h2⟩=>by
    obtain⟨G1,G2,rfl,q⟩:=fQ.Nd k h2;exact⟨F1++G1,G2,by simp[hF],by rw[List.take_succ_cons];exact⟨c1,c2,F1,G1,hc,rfl,h1,q⟩⟩
theorem St.sub{a:Option Addr}{c:Nat}{l m:List α}{i j:Int}(h:St w0 F0 w L)(k:Nat)(hi:L[k]?=some (sl a c l))(hs:Kx.sub l i j=some m):l.length<=c/\St w0 F0 w (L.set k (sl (lL a c i.toNat (dp.sz α)) (c-i.toNat) m)):=by
  refine⟨?_,h.setAt hi fun F hF hn hlt=>?_⟩
  · obtain⟨F,hF,_,_⟩:=h.own;obtain⟨Fi,q,_⟩:=hF.at_ k hi
    rcases q with⟨_,_,rfl,_⟩|⟨_,_,_,_,_,_,_,h1,_⟩
    · simp
    · exact h1
  · obtain⟨h1,h2,h3,rfl,hm⟩:=pc hs
    rcases hF with⟨rfl,rfl,rfl,rfl⟩|⟨g,o,cur,F',rfl,hg,hz,q1,q2,rfl,he⟩
    · refine St.init (F:=[]) ⟨[],[],rfl,.inl ⟨by simp[lL],by simp,by simp,rfl⟩,rfl⟩ List.nodup_nil (by simp)
    · obtain⟨G1,G2,hG,e1⟩:=fQ.drop i.toNat he;obtain⟨G3,G4,hG',e2⟩:=fQ.Nd (j.toNat-i.toNat) e1;subst hG;subst hG'
      have hnn:(g::G3).Nodup:=by
        refine hn.sublist ?_;simp only[List.cons_sublist_cons];exact(List.sublist_append_left G3 G4).trans (List.sublist_append_right _ _)
      refine⟨rfl,rfl,rfl,Nat.le_refl _,fun _ _ _=>rfl,g::G3,⟨g::G3,[],(List.append_nil _).symm,.inr ?_,rfl⟩,hnn,fun b hb=>?_⟩
      · by_cases hc:c=i.toNat
        · have hl0:(l.drop i.toNat).take (j.toNat-i.toNat)=[]:=by rw[List.drop_eq_nil_of_le (by omega)];simp
          rw[hl0]at e2⊢;refine⟨g,o,cur,G3,by simp[lL,hc],hg,?_,by simp,by omega,rfl,e2⟩;rw[hc];simp;omega
        · refine⟨g,o+i.toNat*dp.sz α,cur,G3,by simp[lL,hc,add_lit],hg,?_,by rw[hm];omega,by omega,rfl,?_⟩
          · have:i.toNat+(c-i.toNat)=c:=by omega
            rw[Nat.add_assoc, <- Nat.add_mul,this];exact hz
          · rw[<- List.drop_drop];exact e2
      · have:b∈g::(G1++(G3++G4)):=by
          rcases List.mem_cons.1 hb with rfl|hb
          · simp
          · simp[hb]
        exact⟨.inl this,hlt b this⟩
theorem St.tI{a:Option Addr}{c:Nat}{l m:List α}{i j:Int}(h:St w0 F0 w L)(k:Nat)(hi:L[k]?=some (sl a c l))(hs:Kx.sub l i j=some m):
    l.length<=c/\∃(a':Option Addr) (c':Nat),a'=lL a c i.toNat (dp.sz α)/\c'=c-i.toNat/\St w0 F0 w (L.set k (sl a' c' m)):=by
  obtain⟨h1,h2⟩:=St.sub h k hi hs;exact⟨h1,_,_,rfl,rfl,h2⟩
end
def kA{α β:Type}(l m:List α)(k:Option β):Option β:=if l.length=m.length then k else none
theorem eR{α β:Type}{l m:List α}{k:Option β}{y:β}(h:kA l m k=some y):l.length=m.length/\k=some y:=by
  unfold kA at h;split at h
  · rename_i hc;exact⟨hc,h⟩
  · cases h
theorem dE.b1{P:Program}{e:Env}{w w0:World}{F0:List Nat}{L:List Item}{a T:Nat}{g:Nat}{bt:TypeId}{cs:List Value}{v:Value}(hS:St w0 F0 w L)(i:Nat)(hi:L[i]?=some (bx g bt cs))(ht:fx P T=some none)(ha:e a=.pointer (some ⟨g,0,none⟩))(hv:wv cs 0=some v):dE P e w (.cell a T) v:=by
  have hl:=fv.box (P:=P) (ρ:=ev e) (x:=.tmp a) (o:=0) (cs:=cs) (bt:=bt) (fr:=(0,0)) ht ha hv;refine ⟨_,ha,?_⟩;have h1:=hl none 0 "" #[] none w (St.cell (h:=hS) hi);have ha':ev e (.tmp a)=.pointer (some ⟨g,0,none⟩):=ha;simp only [execOp,Instr.loadAt,ha',Instr.sureAddr] at h1
  cases hr:(loadVar T ⟨g,0,none⟩).run P w with
  | ok v w'=>simp[hr]at h1;obtain⟨h2,h3⟩:=h1;subst h2;subst h3;rfl
  | halt x w'=>simp[hr]at h1
section
variable {P:Program} {w0 w w1:World} {F0 F:List Nat} {L:List Item} {α β γ:Type} [dp α] [dp β] [dp γ]
def al(x:Item)(b:Option Addr)(k:Nat)(m:List β):Item :=
  ⟨fun w F=>∃F1 F2,F=F1++F2/\x.p w F1/\dX (fun q=>q∈F) w b k m,fun w w' F h hb=>by
    obtain⟨F1,F2,rfl,h1,h2⟩:=h
    exact⟨F1,F2,rfl,x.frame w w' F1 h1 fun q hq=>hb q (List.mem_append_left _ hq),h2.iS hb⟩⟩
theorem St.Pv{a:Option Addr}{c:Nat}{l:List α}(h:St w0 F0 w L)(i:Nat)(hi:L[i]?=some (sl a c l)):St w0 F0 w (L.set i (al (sl a c l) a c l)) :=
  h.setAt hi fun G hG hn hlt=>St.init ⟨G,[],by simp,⟨G,[],by simp,hG,jA.rd hG fun q hq=>hq⟩,rfl⟩ hn hlt
theorem St.MM{x:Item}{b:Option Addr}{k:Nat}{m:List β}(h:St w0 F0 w (x::sl b k m::L)):St w0 F0 w (al x b k m::L):=by
  have h':St w0 F0 w ([x,sl b k m]++L):=h;obtain⟨F,hF,hn,hlt,_,_,hm⟩:=h'.share;obtain⟨F1,F2,rfl,q1,F3,F4,rfl,q2,q3⟩:=hF;cases q3;exact hm w [al x b k m] (St.init ⟨F1++F3,[],by simp,⟨F1,F3,rfl,q1,jA.rd q2 fun q hq=>List.mem_append_right _ hq⟩,rfl⟩ (by simpa using hn) (by simpa using hlt))
theorem St.Ed{x:Item}{b:Option Addr}{k:Nat}{m:List β}(h:St w0 F0 w L)(i:Nat)(hi:L[i]?=some (al x b k m)):St w0 F0 w (L.set i x) :=
  h.setAt hi fun G hG hn hlt=>by
    obtain⟨F1,F2,rfl,q,_⟩:=hG;refine⟨rfl,rfl,rfl,Nat.le_refl _,fun _ _ _=>rfl,F1,⟨F1,[],by simp,q,rfl⟩,(List.nodup_append.1 hn).1,fun b hb=>⟨.inl (List.mem_append_left _ hb),hlt b (List.mem_append_left _ hb)⟩⟩
theorem St.Od{x:Item}{b:Option Addr}{k:Nat}{m:List β}(h:St w0 F0 w L)(i:Nat)(hi:L[i]?=some (al x b k m)):
    ∃F,(al x b k m).p w F/\dX (fun q=>q∈F) w b k m/\St w0 F0 w (L.set i (fz w F)):=by
  have h':St w0 F0 w ([al x b k m]++L.eraseIdx i):=h.front i hi;obtain⟨F,hF,hn,hlt,_,_,hm⟩:=h'.share;obtain⟨F1,F2,rfl,q1,q2⟩:=hF;cases(show F2=[] from q2);rw[List.append_nil]at hn hlt hm
  have hr:dX (fun q=>q∈F1) w b k m:=by
    obtain⟨G1,G2,_,_,q⟩:=q1;exact q
  exact⟨F1,q1,hr,(hm w [fz w F1] (St.init ⟨F1,[],by simp,⟨rfl,fun _ _=>rfl⟩,rfl⟩ hn hlt)).perm (eraseIdx_set L i _ (eF hi))⟩
theorem St.PQ{x:Item}(h:St w0 F0 w L)(i:Nat)(hi:L[i]?=some (fz w1 F))(hx:x.p w1 F):St w0 F0 w (L.set i x) :=
  h.setAt hi fun G hG hn hlt=>by
    obtain⟨rfl,hb⟩:=hG;exact St.init ⟨G,[],by simp,x.frame w1 w G hx hb,rfl⟩ hn hlt
theorem Nm{w':World}{F:List Nat}{x:Item}{b:Option Addr}{k:Nat}{m:List β}{FA:List Nat}(hs:St w F w' [x])(hA:dX (fun q=>q∈FA) w b k m)(hsub:∀q,q∈FA->q∈F/\q<w.heap.size/\w'.heap[q]?=w.heap[q]?)(hn:FA.Nodup):St w F w' [al x b k m]:=by
  obtain⟨F',hF',hn',hb'⟩:=hs.own;obtain⟨F1,F2,rfl,q1,q2⟩:=hF';cases(show F2=[] from q2);rw[List.append_nil]at hn' hb';refine⟨hs.os,hs.tape,hs.output,hs.size,hs.same,F1++FA.filter (fun q=>!F1.contains q),⟨F1++FA.filter (fun q=>!F1.contains q),[],by simp,⟨F1,_,rfl,q1,?_⟩,rfl⟩,?_,?_⟩
  · refine(hA.iS fun q hq=>(hsub q hq).2.2).mono fun q hq=>?_
    by_cases hm:q∈F1
    · exact List.mem_append_left _ hm
    · exact List.mem_append_right _ (List.mem_filter.2 ⟨hq,by simpa using hm⟩)
  · refine List.nodup_append.2 ⟨hn',hn.filter _,fun p hp q hq e=>?_⟩;subst e;have:=(List.mem_filter.1 hq).2;simp[hp]at this
  · intro q hq
    rcases List.mem_append.1 hq with hq|hq
    · exact hb' q hq
    · have:=hsub q (List.mem_filter.1 hq).1;exact⟨.inl this.1,Nat.lt_of_lt_of_le this.2.1 hs.size⟩
end
theorem fv.cells{P:Program}{ρ:Operand->Value}{t:TypeId}{x:Operand}{b o m:Nat}{cs:List Value}(ht:fx P t=some (some m))(hx:ρ x=.pointer (some ⟨b,o,none⟩))(hl:cs.length=m):
    fv P ρ (.load t x) (fun w=>∀(j:Nat) (u:Value),cs[j]?=some u->w.cell? ⟨b,o+j,none⟩=some u) (.agg cs.toArray) :=
  fun d ty pos aft gd w hc=>fv.agg ht hx hl d ty pos aft gd w hc
section
variable {P:Program} {n:Nat} {ops:Array Oper} {Q:iO} {rest:List Oper} {e:Env} {w w0:World} {F0:List Nat} {L M:List Item} {d:Nat} {ty:TypeId} {pos:String} {aft:Array Edge} {α β γ:Type} [dp α] [dp β] [dp γ]
theorem LW.P9{t:TypeId}{ty2:TypeId}{pos2:String}{aft2:Array Edge}{x s:Operand}{d1:Nat}{vs:Array Value}{i:Nat}{a aX b:Option Addr}{c cX k:Nat}{lX:List γ}{m:List β}{l l':List α}{y:α}(hT:jI P t α)
    (hp:(ev e x).cells=vs) (hb:yj P t 1 [(0,ev e x)]=some (dp.ty α,vs)) (hs:ev e s=.slice a l.length c) (hs1:ev (im e d1 undef) s=ev e s) (hl:app l [y]=some l')
    (hS:St w0 F0 w (al (sl aX cX lX) b k m::(M++L))) (hi:L[i]?=some (sl a c l)) (hM:∀(w:World) (G:List Nat),eH (sl aX cX lX::M) w G->dp.own w vs.toList G y) (hd1:Nat.ble (d1+1) n=true) (hd:Nat.ble (d+1) n=true)
    (h:∀(v1:Value) (a':Option Addr) (c':Nat) (w':World),St w0 F0 w' (L.set i (al (sl a' c' l') b k m))->Fr w w' ((a.map (·.block)).toList)->LW P n ops Q rest (im (im e d1 v1) d (.slice a' l'.length c')) w') :
    LW P n ops Q (⟨some d1,.buildSlice t 1 #[(0,x)],ty2,pos2,aft2,none⟩::⟨some d,.call { callee:=.builtin .append,args:=#[s,.tmp d1],argTypes:=#[t,t] },ty,pos,aft,none⟩::rest) e w:=by
  have h':St w0 F0 w ((al (sl aX cX lX) b k m::(M++[sl a c l]))++L.eraseIdx i):=by
    refine hS.perm ?_;have:=u6 L i (sl a c l) hi;simp only[List.cons_append,List.append_assoc,List.nil_append];exact(this.append_left M).cons _
  obtain⟨F,hF,hn,hlt,_,_,hm⟩:=h'.share;obtain⟨FA,FR,rfl,hA,hR⟩:=hF;obtain⟨F1,F2,rfl,hX,hr⟩:=hA;obtain⟨FM,FL,rfl,hMh,hL⟩:=eH.append.1 hR;obtain⟨Fl,Fe,rfl,hl1,hl2⟩:=hL;cases(show Fe=[] from hl2);obtain⟨n1,n2,nd⟩:=List.nodup_append.1 hn
  have hT0:St w ((F1++F2)++(FM++(Fl++[]))) w ((sl aX cX lX::M)++[sl a c l]):=by
    refine⟨rfl,rfl,rfl,Nat.le_refl _,fun _ _ _=>rfl,F1++(FM++(Fl++[])),?_,?_,?_⟩
    · exact⟨F1,_,rfl,hX,hR⟩
    · refine List.nodup_append.2 ⟨(List.nodup_append.1 n1).1,n2,fun p hp q hq=>nd p (List.mem_append_left _ hp) q hq⟩
    · intro q hq
      have:q∈(F1++F2)++(FM++(Fl++[])):=by
        rcases List.mem_append.1 hq with hq|hq
        · exact List.mem_append_left _ (List.mem_append_left _ hq)
        · exact List.mem_append_right _ hq
      exact⟨.inl this,hlt q this⟩
  refine LW.fZ (M:=sl aX cX lX::M) (L:=[sl a c l]) (i:=0) hT hp hb hs hs1 hl hT0 rfl hM hd1 hd fun v1 a' c' w' hS' hf=>h v1 a' c' w' ?_ hf;have hS':St w ((F1++F2)++(FM++(Fl++[]))) w' [sl a' c' l']:=hS'
  have hblk:∀q,q∈((a.map (·.block)).toList)->q∈Fl:=by
    intro q hq
    rcases hl1 with⟨rfl,_⟩|⟨g,o,cur,F',rfl,_,_,_,_,rfl,_⟩
    · simp at hq
    · simp at hq;subst hq;simp
  have hover:=Nm hS' hr (fun q hq=>⟨List.mem_append_left _ hq,hlt q (List.mem_append_left _ hq),hf.same q (hlt q (List.mem_append_left _ hq)) fun hb=>nd q hq q (List.mem_append_right _ (List.mem_append_left _ (hblk q hb))) rfl⟩) n1;exact(hm w' _ hover).perm (eraseIdx_set L i _ (eF hi))
end
end Go.Kx
