import Derived.Test.YtfmfgnhbgcjajaaGreatDraw
namespace Go.Kx
open Go Go.RowKit
set_option linter.unusedVariables false
set_option linter.unusedSimpArgs false
class iY (P:Program) (t:TypeId) (a:outParam (Option Nat)):Prop where
  h:fx P t=some a
class gq (P:Program) (t:TypeId) (k:Nat) (off:outParam Nat) (a:outParam (Option Nat)):Prop where
  h:fo P t k=some (off,a)
class uf (P:Program) (t:TypeId) (m:outParam Nat):Prop where
  h:m4 P t=some m
class rL (P:Program) (t:TypeId) (ds:outParam TypeDesc):Prop where
  h:P.underlying t=some ds
class uk (P:Program) (t:TypeId) where
  z:Value
  h:zeroV P t=some z
inductive Nf {α:Type}:List α->List α->Prop
  | nil {l:List α} (h:l=[]):Nf l []
  | cons {l t m:List α} {a:α} (h:l=a::t) (k:Nf t m):Nf l (a::m)
theorem iJ{α:Type}{a b:List α}(h:Nf a b:=by repeat (first|((with_reducible apply Nf.cons);rfl)|((with_reducible apply Nf.nil);rfl))):Nf a b:=h
theorem Nf.eq{α:Type}:∀{l m:List α},Nf l m->l=m
  | _,_,.nil h=>h
  | _,_,.cons h k=>by rw[h,k.eq]
def yD:List (Nat×Value)->Nat->Option Value
  | [],_=>none
  | (d,v)::l,i=>bif Nat.beq i d then some v else yD l i
def il(l:List (Nat×Value)):Operand->Option Value
  | .tmp t=>yD l t
  | .const v=>some v
  | .global g=>some (.pointer (some ⟨g,0,none⟩))
  | .func f=>some (.func (.func f) #[] #[])
theorem te{e:Env}:∀{l:List (Nat×Value)} {i:Nat} {v:Value},yD l i=some v->dF e l i=v
  | [],_,_,h=>by cases h
  | (d,u)::l,i,v,h=>by
    unfold yD at h;unfold dF im;cases hb:Nat.beq i d
    · rw[hb]at h;exact te h
    · rw[hb]at h;exact Option.some.inj h
theorem eY{e:Env}{l:List (Nat×Value)}{x:Operand}{v:Value}(h:il l x=some v):ev (dF e l) x=v:=by
  cases x with
  | tmp t=>exact te h
  | const u=>exact Option.some.inj h
  | global g=>exact Option.some.inj h
  | func f=>exact Option.some.inj h
def xu:Nat->List Value->List (Nat×Value)
  | _,[]=>[]
  | k,v::l=>(k,v)::xu (k+1) l
theorem Cy:∀(l:List Value) (k i:Nat),dF (fun _=>undef) (xu k l) i=if k<=i then l.getD (i-k) undef else undef
  | [],k,i=>by simp[xu,dF]
  | v::l,k,i=>by
    unfold xu dF im;cases hb:Nat.beq i k
    · have hne:i ≠ k:=fun e=>by subst e;simp at hb
      rw[RL,Cy l (k+1) i]
      by_cases h1:k+1<=i
      · rw[if_pos h1,if_pos (by omega),show i-k=(i-(k+1))+1 by omega];rfl
      · rw[if_neg h1,if_neg (by omega)]
    · have:=Nat.eq_of_beq_eq_true hb;subst this;simp
theorem Oh(args:Array Value):DI args=dF (fun _=>undef) (xu 0 args.toList):=by
  funext i
  rw[Cy];simp[DI,Array.getD_eq_getD_getElem?,List.getD_eq_getElem?_getD]
theorem di.fn{P:Program}{n:Nat}{w:World}{f:FuncId}{fn:Func}{c:Code}{args:Array Value}{K:Value->World->Prop}(hf:P.funcs[f]?=some fn)
    (h:∀e,CW P n c (fun x e' w'=>(match x with|.ret=>True|.normal=>True|_=>False)/\∃v,gL P fn.results e' w' v/\K v w') (dF e (xu 0 args.toList)) w) (hb:fn.body=some c:=by rfl) (hn:fn.ntmps=n:=by rfl) (ha:Nat.ble args.size n=true:=by rfl):di P f args w K :=
  di.of hf hb hn ha (Oh args ▸ h _)
theorem di.fS{P:Program}{n:Nat}{w:World}{f:FuncId}{fn:Func}{c:Code}{args:Array Value}{K:Value->World->Prop}(hf:P.funcs[f]?=some fn)
    (h:∀e,St w [] w []->CW P n c (fun x e' w'=>(match x with|.ret=>True|.normal=>True|_=>False)/\∃v,gL P fn.results e' w' v/\K v w') (dF e (xu 0 args.toList)) w) (hb:fn.body=some c:=by rfl) (hn:fn.ntmps=n:=by rfl) (ha:Nat.ble args.size n=true:=by rfl):di P f args w K :=
  di.fn hf (fun e=>h e (St.start w)) hb hn ha
theorem St.mU{w0 w w1:World}{F0 F:List Nat}{L:List Item}{b O:Nat}{cs:List Value}(h:St w0 F0 w L)(i:Nat)(hb:b∈F)(hk:∀(j:Nat) (u:Value),cs[j]?=some u->w1.cell? ⟨b,O+j,none⟩=some u)(hi:L[i]?=some (fz w1 F):=by exact rfl):
    ∀(j:Nat) (u:Value),cs[j]?=some u->w.cell? ⟨b,O+j,none⟩=some u:=fun j u hu=>(World.cell?_of_block (h.zC i hi hb)).trans (hk j u hu)
theorem St.mZ{α:Type}[dp α]{w0 w:World}{F0:List Nat}{L:List Item}{c b o:Nat}{l:List α}{k:Int}{x:α}{cs:List Value}(h:St w0 F0 w L)(i:Nat)(hx:idx l k=some x)
    (hcs:∀(j:Nat) (u:Value),cs[j]?=some u->w.cell? ⟨b,o+k.toNat*dp.sz α+j,none⟩=some u) (hi:L[i]?=some (sl (some ⟨b,o,none⟩) c l):=by exact rfl) (hl:cs.length=dp.sz α:=by exact rfl) :
    ∃Fx,dp.own w cs Fx x/\∀M,eH M w Fx->St w0 F0 w (M++L.set i (hole α (some ⟨b,o,none⟩) c l k.toNat cs)):=h.focus i hi hx hl hcs
inductive px (l:List (Nat×Value)):List Nat->List (Nat×Value)->Prop
  | nil:px l [] []
  | cons {d:Nat} {v:Value} {ds:List Nat} {m:List (Nat×Value)} (h:yD l d=some v) (t:px l ds m):px l (d::ds) ((d,v)::m)
theorem vv{l:List (Nat×Value)}{ds:List Nat}{m:List (Nat×Value)}(h:px l ds m:=by repeat (first|exact px.nil|(apply px.cons;rfl))):px l ds m:=h
theorem px.en{e:Env}{l:List (Nat×Value)}:∀{ds:List Nat} {m:List (Nat×Value)},px l ds m->En (dF e l) m
  | _,_,.nil=>trivial
  | _,_,.cons h t=>⟨te h,t.en⟩
section
variable {P:Program} {n:Nat} {Q Q':iO} {e:Env} {l:List (Nat×Value)} {w w0:World} {F0:List Nat} {L:List Item} {ops:Array Oper} {rest:List Oper} {ty:TypeId} {pos:String} {aft:Array Edge} {d:Nat} {v:Value}
theorem yC{E:Env}(h:E=dF e l):im E d v=dF e ((d,v)::l):=by subst h;rfl
theorem tJ{E:Env}(h:E=dF e l:=by repeat (first|(with_reducible exact rfl)|(with_reducible apply yC))):E=dF e l:=h
theorem LW.nr{E:Env}(hE:E=dF e l)(h:LW P n ops Q rest (dF e ((d,v)::l)) w):LW P n ops Q rest (im E d v) w:=by subst hE;exact h
theorem CW.nr{E:Env}{c:Code}(hE:E=dF e l)(h:CW P n c Q (dF e ((d,v)::l)) w):CW P n c Q (im E d v) w:=by subst hE;exact h
theorem LW.fl(ds:List Nat){E:Env}{m:List (Nat×Value)}(k:∀e',LW P n ops Q rest (dF e' m) w)(hE:E=dF e l:=by exact tJ)(h:px l ds m:=by exact vv):LW P n ops Q rest E w:=by subst hE;exact LW.fresh h.en k
theorem CW.fl(ds:List Nat){E:Env}{m:List (Nat×Value)}{c:Code}(k:∀e',CW P n c Q (dF e' m) w)(hE:E=dF e l:=by exact tJ)(h:px l ds m:=by exact vv):CW P n c Q E w:=by subst hE;exact CW.fresh h.en k
theorem LW.mv{x:Operand}(hx:il l x=some v)(hd:Nat.ble (d+1) n=true)(h:LW P n ops Q rest (dF e ((d,v)::l)) w):LW P n ops Q (⟨some d,.move x,ty,pos,aft,none⟩::rest) (dF e l) w :=
  LW.p (by simp[pv,eY hx]) hd h
theorem LW.as{x:Operand}(hx:il l x=some v)(hd:Nat.ble (d+1) n=true)(h:LW P n ops Q rest (dF e ((d,v)::l)) w):LW P n ops Q (⟨some d,.assign x,ty,pos,aft,none⟩::rest) (dF e l) w :=
  LW.p (by simp[pv,eY hx]) hd h
theorem LW.bin{o:BinOp}{t u:TypeId}{x y:Operand}{k k':IntKind}{a b:Int}(hx:il l x=some (.int k a))(hy:il l y=some (.int k' b))(hv:(bif DR k k' then M9 o k a b else none)=some v)(hd:Nat.ble (d+1) n=true)
    (h:LW P n ops Q rest (dF e ((d,v)::l)) w):LW P n ops Q (⟨some d,.binOp o t x y u,ty,pos,aft,none⟩::rest) (dF e l) w :=
  LW.p (by simp only[pv,eY hx,eY hy];exact hv) hd h
theorem LW.not{t:TypeId}{x:Operand}{b:Bool}(hx:il l x=some (.bool b))(hd:Nat.ble (d+1) n=true)(h:LW P n ops Q rest (dF e ((d,.bool (!b))::l)) w):LW P n ops Q (⟨some d,.unOp .not t x,ty,pos,aft,none⟩::rest) (dF e l) w :=
  LW.p (by simp[pv,eY hx]) hd h
theorem LW.neg{t:TypeId}{x:Operand}{k:IntKind}{a:Int}(hx:il l x=some (.int k a))(hd:Nat.ble (d+1) n=true)(h:LW P n ops Q rest (dF e ((d,.int k (k.wrap (0-a)))::l)) w):LW P n ops Q (⟨some d,.unOp .neg t x,ty,pos,aft,none⟩::rest) (dF e l) w :=
  LW.p (by simp[pv,eY hx]) hd h
theorem LW.ext{x:Operand}{i:Nat}{vs:Array Value}(hx:il l x=some (.tuple vs))(hv:Cb vs.toList i=some v)(hd:Nat.ble (d+1) n=true)(h:LW P n ops Q rest (dF e ((d,v)::l)) w):LW P n ops Q (⟨some d,.extract x i,ty,pos,aft,none⟩::rest) (dF e l) w :=
  LW.p (by simp only[pv,eY hx];exact hv) hd h
theorem LW.fa{t:TypeId}{x:Operand}{k off g o:Nat}{a:Option Nat}(hf:fo P t k=some (off,a))(hx:il l x=some (.pointer (some ⟨g,o,none⟩)))(hd:Nat.ble (d+1) n=true)
    (h:LW P n ops Q rest (dF e ((d,.pointer (some ⟨g,o+off,none⟩))::l)) w):LW P n ops Q (⟨some d,.fieldAddr t x k,ty,pos,aft,none⟩::rest) (dF e l) w:=LW.u (dL.fa hf (eY hx)) hd h
theorem LW.nc{x:Operand}{a:Addr}(hx:il l x=some (.pointer (some a)))(hd:Nat.ble (d+1) n=true)(h:LW P n ops Q rest (dF e ((d,.pointer (some a))::l)) w):LW P n ops Q (⟨some d,.nilCheck x,ty,pos,aft,none⟩::rest) (dF e l) w:=LW.u (dL.nc (eY hx)) hd h
theorem LW.len{t el:TypeId}{x:Operand}{a:Option Addr}{m c:Nat}(ht:P.underlying t=some (.slice el))(hx:il l x=some (.slice a m c))(hd:Nat.ble (d+1) n=true)(h:LW P n ops Q rest (dF e ((d,.int .i64 (m:Int))::l)) w):
    LW P n ops Q (⟨some d,.call { callee:=.builtin .len,args:=#[x],argTypes:=#[t] },ty,pos,aft,none⟩::rest) (dF e l) w:=LW.u (dL.len ht (eY hx)) hd h
theorem LW.Lv{c a b:Operand}{t:Bool}(hc:il l c=some (.bool t))(ht:t=true)(ha:il l a=some v)(hd:Nat.ble (d+1) n=true)(h:LW P n ops Q rest (dF e ((d,v)::l)) w):LW P n ops Q (⟨some d,.pick c a b,ty,pos,aft,none⟩::rest) (dF e l) w:=by
  refine LW.u (dL.M6 (eY hc) ht) hd ?_;rw[eY ha];exact h
theorem LW.Ld{c a b:Operand}{t:Bool}(hc:il l c=some (.bool t))(ht:t=false)(ha:il l b=some v)(hd:Nat.ble (d+1) n=true)(h:LW P n ops Q rest (dF e ((d,v)::l)) w):LW P n ops Q (⟨some d,.pick c a b,ty,pos,aft,none⟩::rest) (dF e l) w:=by
  refine LW.u (dL.MW (eY hc) ht) hd ?_;rw[eY ha];exact h
theorem LW.ld{t bt:TypeId}{x:Operand}{g o:Nat}{cs:List Value}(hx:il l x=some (.pointer (some ⟨g,o,none⟩)))(hS:St w0 F0 w L)(hm:∃i:Nat,L[i]?=some (bx g bt cs))(ht:fx P t=some none)(hv:wv cs o=some v)(hd:Nat.ble (d+1) n=true)
    (h:LW P n ops Q rest (dF e ((d,v)::l)) w):LW P n ops Q (⟨some d,.load t x,ty,pos,aft,none⟩::rest) (dF e l) w:=by
  obtain⟨i,hi⟩:=hm;exact LW.Rk hS i hi ht (eY hx) hv hd h
theorem LW.J0{t bt:TypeId}{x:Operand}{g o m:Nat}{cs:List Value}(hx:il l x=some (.pointer (some ⟨g,o,none⟩)))(hS:St w0 F0 w L)(hm:∃i:Nat,L[i]?=some (bx g bt cs))(ht:fx P t=some (some m))(hl:Nat.ble (o+m) cs.length=true)(hd:Nat.ble (d+1) n=true)
    {vs:List Value} (hn:Nf (rQ cs o m) vs) (h:LW P n ops Q rest (dF e ((d,.agg vs.toArray)::l)) w):LW P n ops Q (⟨some d,.load t x,ty,pos,aft,none⟩::rest) (dF e l) w:=by
  obtain⟨i,hi⟩:=hm;cases hn.eq;exact LW.QA hS i hi ht (eY hx) hl hd h
theorem LW.yes{op:Op}{dd:Option Tmp}{j q:Nat}{b t:Bool}(hd:(ops[j]?).bind (·.dst)=some q)(hv:yD l q=some (.bool t))(ht:t=b)(h:LW P n ops Q (⟨dd,op,ty,pos,aft,none⟩::rest) (dF e l) w):
    LW P n ops Q (⟨dd,op,ty,pos,aft,some (j,b)⟩::rest) (dF e l) w:=LW.gY (jd hd (te hv) ht) h
theorem LW.no{op:Op}{j q:Nat}{b t:Bool}(hd:(ops[j]?).bind (·.dst)=some q)(hv:yD l q=some (.bool t))(ht:t=!b)(hn:Nat.ble (d+1) n=true)(h:LW P n ops Q rest (dF e ((d,undef)::l)) w):
    LW P n ops Q (⟨some d,op,ty,pos,aft,some (j,b)⟩::rest) (dF e l) w:=LW.gN (E8 hd (te hv) ht) hn h
theorem LW.JZ{t el:TypeId}{x y:Operand}{b o m' c m:Nat}{k:IntKind}{i:Int}(ht:P.underlying t=some (.slice el))(hm:m4 P el=some m)(hx:il l x=some (.slice (some ⟨b,o,none⟩) m' c))(hy:il l y=some (.int k i))(h0:0<=i)(h1:i<m')(hd:Nat.ble (d+1) n=true)
    (h:LW P n ops Q rest (dF e ((d,.pointer (some ⟨b,o+i.toNat*m,none⟩))::l)) w):LW P n ops Q (⟨some d,.indexAddr t x y,ty,pos,aft,none⟩::rest) (dF e l) w:=LW.u (dL.ix ht hm (eY hx) (eY hy) h0 h1) hd h
theorem LW.Pu{op:Op}{j q:Nat}{b:Bool}(hd:(ops[j]?).bind (·.dst)=some q)(hv:yD l q=some undef)(hn:Nat.ble (d+1) n=true)(h:LW P n ops Q rest (dF e ((d,undef)::l)) w):
    LW P n ops Q (⟨some d,op,ty,pos,aft,some (j,b)⟩::rest) (dF e l) w:=LW.gN (AZ hd (te hv)) hn h
def gS(P:Program)(n:Nat)(ops:Array Oper)(Q:iO)(fuel:Nat)(E:nG)(listed:Array Bool)(i d:Nat)(op:Op)(e:Env)(w:World):Prop :=
  gR ops listed i=true/\Nat.ble (d+1) n=true/\∃v,((dL P (ev e) op v/\AW P n ops Q fuel E (listed.setIfInBounds i true) (im e d v) w)\/∃C,fv P (ev e) op C v/\C w/\AW P n ops Q fuel ((i,C)::E) (listed.setIfInBounds i true) (im e d v) w)
def KZ(ops:Array Oper)(listed:Array Bool)(i:Nat):Bool :=
  !(gR ops listed i) || match ops[i]? with
    | some o=>match o.op with
      | .call _=>true
      | .store _ _ _=>true
      | .box _ _=>true
      | .alloc _=>true
      | .makeSlice _ _ _=>true
      | .buildSlice _ _ _=>true
      | _=>false
    | none=>false
def Km(ops:Array Oper)(listed:Array Bool)(b:Nat):Nat->Bool
  | 0=>true
  | k+1=>KZ ops listed (b+k)&&Km ops listed b k
inductive Nx:Array Bool->Nat->Prop
  | start (m:Nat):Nx (Array.replicate m false) 0
  | set (a:Array Bool) (j:Nat):Nx (a.setIfInBounds j true) (j+1)
section
variable {fuel:Nat} {E:nG} {listed:Array Bool} {i b:Nat} {op:Op}
theorem gS.on{g:Option (Nat×Bool)}(hi:ops[i]?=some ⟨some d,op,ty,pos,aft,g⟩)(hw:nA ops g e=true)(h:gS P n ops Q fuel E listed i d op e w):AW P n ops Q (fuel+1) E listed e w:=by
  obtain⟨hok,hd,v,⟨hp,h⟩|⟨C,hl,hC,h⟩⟩:=h
  · exact AW.u hi hok hw hd hp h
  · exact AW.take hi hok hw hd hl hC h
theorem AW.OD(h:AW P n ops Q fuel E listed e w):AW P n ops Q fuel E listed e w:=h
theorem AW.nr{E':Env}(hE:E'=dF e l)(h:AW P n ops Q fuel E listed (dF e ((d,v)::l)) w):AW P n ops Q fuel E listed (im E' d v) w:=by subst hE;exact h
theorem AW.gN(k:Nat)(hx:Nx listed b)(hi:ops[b+k]?=some ⟨some d,op,ty,pos,aft,none⟩)(hsk:Km ops listed b k=true)(h:gS P n ops Q fuel E listed (b+k) d op (dF e l) w):AW P n ops Q (fuel+1) E listed (dF e l) w:=h.on hi rfl
theorem AW.gY(k:Nat){j q:Nat}{t t':Bool}(hx:Nx listed b)(hi:ops[b+k]?=some ⟨some d,op,ty,pos,aft,some (j,t')⟩)(hsk:Km ops listed b k=true)(hq:(ops[j]?).bind (·.dst)=some q)(hv:yD l q=some (.bool t))(ht:t=t')(h:gS P n ops Q fuel E listed (b+k) d op (dF e l) w):AW P n ops Q (fuel+1) E listed (dF e l) w:=h.on hi (jd hq (te hv) ht)
theorem AW.g0(k:Nat){j q:Nat}{t t':Bool}(hx:Nx listed b)(hi:ops[b+k]?=some ⟨some d,op,ty,pos,aft,some (j,t')⟩)(hsk:Km ops listed b k=true)(hq:(ops[j]?).bind (·.dst)=some q)(hv:yD l q=some (.bool t))(ht:t=!t')(hok:gR ops listed (b+k)=true)(hd:Nat.ble (d+1) n=true)
    (h:AW P n ops Q fuel E (listed.setIfInBounds (b+k) true) (dF e ((d,undef)::l)) w):AW P n ops Q (fuel+1) E listed (dF e l) w:=AW.no hi hok (E8 hq (te hv) ht) hd h
theorem AW.gU(k:Nat){j q:Nat}{t':Bool}(hx:Nx listed b)(hi:ops[b+k]?=some ⟨some d,op,ty,pos,aft,some (j,t')⟩)(hsk:Km ops listed b k=true)(hq:(ops[j]?).bind (·.dst)=some q)(hv:yD l q=some undef)(hok:gR ops listed (b+k)=true)(hd:Nat.ble (d+1) n=true)
    (h:AW P n ops Q fuel E (listed.setIfInBounds (b+k) true) (dF e ((d,undef)::l)) w):AW P n ops Q (fuel+1) E listed (dF e l) w:=AW.no hi hok (AZ hq (te hv)) hd h
theorem gS.u(hp:dL P (ev (dF e l)) op v)(hd:Nat.ble (d+1) n=true)(hok:gR ops listed i=true)(h:AW P n ops Q fuel E (listed.setIfInBounds i true) (dF e ((d,v)::l)) w):gS P n ops Q fuel E listed i d op (dF e l) w:=⟨hok,hd,v,.inl ⟨hp,h⟩⟩
theorem gS.mv{x:Operand}(hx:il l x=some v)(hd:Nat.ble (d+1) n=true)(hok:gR ops listed i=true)(h:AW P n ops Q fuel E (listed.setIfInBounds i true) (dF e ((d,v)::l)) w):gS P n ops Q fuel E listed i d (.move x) (dF e l) w:=.u (.p (by simp[pv,eY hx])) hd hok h
theorem gS.as{x:Operand}(hx:il l x=some v)(hd:Nat.ble (d+1) n=true)(hok:gR ops listed i=true)(h:AW P n ops Q fuel E (listed.setIfInBounds i true) (dF e ((d,v)::l)) w):gS P n ops Q fuel E listed i d (.assign x) (dF e l) w:=.u (.p (by simp[pv,eY hx])) hd hok h
theorem gS.bin{o:BinOp}{t u:TypeId}{x y:Operand}{k k':IntKind}{a b:Int}(hx:il l x=some (.int k a))(hy:il l y=some (.int k' b))(hv:(bif DR k k' then M9 o k a b else none)=some v)(hd:Nat.ble (d+1) n=true)(hok:gR ops listed i=true)
    (h:AW P n ops Q fuel E (listed.setIfInBounds i true) (dF e ((d,v)::l)) w):gS P n ops Q fuel E listed i d (.binOp o t x y u) (dF e l) w:=.u (.p (by simp only[pv,eY hx,eY hy];exact hv)) hd hok h
theorem gS.not{t:TypeId}{x:Operand}{b:Bool}(hx:il l x=some (.bool b))(hd:Nat.ble (d+1) n=true)(hok:gR ops listed i=true)(h:AW P n ops Q fuel E (listed.setIfInBounds i true) (dF e ((d,.bool (!b))::l)) w):gS P n ops Q fuel E listed i d (.unOp .not t x) (dF e l) w:=.u (.p (by simp[pv,eY hx])) hd hok h
theorem gS.neg{t:TypeId}{x:Operand}{k:IntKind}{a:Int}(hx:il l x=some (.int k a))(hd:Nat.ble (d+1) n=true)(hok:gR ops listed i=true)(h:AW P n ops Q fuel E (listed.setIfInBounds i true) (dF e ((d,.int k (k.wrap (0-a)))::l)) w):gS P n ops Q fuel E listed i d (.unOp .neg t x) (dF e l) w:=.u (.p (by simp[pv,eY hx])) hd hok h
theorem gS.ext{x:Operand}{j:Nat}{vs:Array Value}(hx:il l x=some (.tuple vs))(hv:Cb vs.toList j=some v)(hd:Nat.ble (d+1) n=true)(hok:gR ops listed i=true)(h:AW P n ops Q fuel E (listed.setIfInBounds i true) (dF e ((d,v)::l)) w):gS P n ops Q fuel E listed i d (.extract x j) (dF e l) w:=.u (.p (by simp only[pv,eY hx];exact hv)) hd hok h
theorem gS.fa{t:TypeId}{x:Operand}{k off g o:Nat}{a:Option Nat}(hf:fo P t k=some (off,a))(hx:il l x=some (.pointer (some ⟨g,o,none⟩)))(hd:Nat.ble (d+1) n=true)(hok:gR ops listed i=true)
    (h:AW P n ops Q fuel E (listed.setIfInBounds i true) (dF e ((d,.pointer (some ⟨g,o+off,none⟩))::l)) w):gS P n ops Q fuel E listed i d (.fieldAddr t x k) (dF e l) w:=.u (.fa hf (eY hx)) hd hok h
theorem gS.nc{x:Operand}{a:Addr}(hx:il l x=some (.pointer (some a)))(hd:Nat.ble (d+1) n=true)(hok:gR ops listed i=true)(h:AW P n ops Q fuel E (listed.setIfInBounds i true) (dF e ((d,.pointer (some a))::l)) w):gS P n ops Q fuel E listed i d (.nilCheck x) (dF e l) w:=.u (.nc (eY hx)) hd hok h
theorem gS.len{t el:TypeId}{x:Operand}{a:Option Addr}{m c:Nat}(ht:P.underlying t=some (.slice el))(hx:il l x=some (.slice a m c))(hd:Nat.ble (d+1) n=true)(hok:gR ops listed i=true)(h:AW P n ops Q fuel E (listed.setIfInBounds i true) (dF e ((d,.int .i64 (m:Int))::l)) w):
    gS P n ops Q fuel E listed i d (.call { callee:=.builtin .len,args:=#[x],argTypes:=#[t] }) (dF e l) w:=.u (.len ht (eY hx)) hd hok h
theorem gS.Lv{c a b:Operand}{t:Bool}(hc:il l c=some (.bool t))(ht:t=true)(ha:il l a=some v)(hd:Nat.ble (d+1) n=true)(hok:gR ops listed i=true)(h:AW P n ops Q fuel E (listed.setIfInBounds i true) (dF e ((d,v)::l)) w):gS P n ops Q fuel E listed i d (.pick c a b) (dF e l) w :=
  .u (eY ha ▸ dL.M6 (eY hc) ht) hd hok h
theorem gS.Ld{c a b:Operand}{t:Bool}(hc:il l c=some (.bool t))(ht:t=false)(ha:il l b=some v)(hd:Nat.ble (d+1) n=true)(hok:gR ops listed i=true)(h:AW P n ops Q fuel E (listed.setIfInBounds i true) (dF e ((d,v)::l)) w):gS P n ops Q fuel E listed i d (.pick c a b) (dF e l) w :=
  .u (eY ha ▸ dL.MW (eY hc) ht) hd hok h
theorem gS.JZ{t el:TypeId}{x y:Operand}{b' o m' c m:Nat}{k:IntKind}{j:Int}(ht:P.underlying t=some (.slice el))(hm:m4 P el=some m)(hx:il l x=some (.slice (some ⟨b',o,none⟩) m' c))(hy:il l y=some (.int k j))(h0:0<=j)(h1:j<m')(hd:Nat.ble (d+1) n=true)(hok:gR ops listed i=true)
    (h:AW P n ops Q fuel E (listed.setIfInBounds i true) (dF e ((d,.pointer (some ⟨b',o+j.toNat*m,none⟩))::l)) w):gS P n ops Q fuel E listed i d (.indexAddr t x y) (dF e l) w:=gS.u (dL.ix ht hm (eY hx) (eY hy) h0 h1) hd hok h
theorem gS.ld{t bt:TypeId}{x:Operand}{g o:Nat}{cs:List Value}(hx:il l x=some (.pointer (some ⟨g,o,none⟩)))(hS:St w0 F0 w L)(hm:∃i:Nat,L[i]?=some (bx g bt cs))(ht:fx P t=some none)(hv:wv cs o=some v)(hd:Nat.ble (d+1) n=true)(hok:gR ops listed i=true)
    (h:AW P n ops Q fuel ((i,fun w=>w.heap[g]?=some (.cells cs.toArray bt (0,0)))::E) (listed.setIfInBounds i true) (dF e ((d,v)::l)) w):gS P n ops Q fuel E listed i d (.load t x) (dF e l) w:=by
  obtain⟨j,hj⟩:=hm;exact⟨hok,hd,v,.inr ⟨_,fv.box (bt:=bt) (fr:=(0,0)) ht (eY hx) hv,St.cell (h:=hS) (i:=j) hj,h⟩⟩
theorem gS.J0{t bt:TypeId}{x:Operand}{g o m:Nat}{cs:List Value}(hx:il l x=some (.pointer (some ⟨g,o,none⟩)))(hS:St w0 F0 w L)(hm:∃i:Nat,L[i]?=some (bx g bt cs))(ht:fx P t=some (some m))(hl:Nat.ble (o+m) cs.length=true)(hd:Nat.ble (d+1) n=true){vs:List Value}(hn:Nf (rQ cs o m) vs)(hok:gR ops listed i=true)
    (h:AW P n ops Q fuel ((i,fun w=>w.heap[g]?=some (.cells cs.toArray bt (0,0)))::E) (listed.setIfInBounds i true) (dF e ((d,.agg vs.toArray)::l)) w):gS P n ops Q fuel E listed i d (.load t x) (dF e l) w:=by
  obtain⟨j,hj⟩:=hm;cases hn.eq;exact⟨hok,hd,_,.inr ⟨_,fv.LI (bt:=bt) (fr:=(0,0)) ht (eY hx) hl,St.cell (h:=hS) (i:=j) hj,h⟩⟩
end
theorem LW.Qh{r:List Oper}{o:Oper}(h:LW P n ops Q (o::r) e w):LW P n ops Q (o::r) e w:=h
theorem LW.ex{r:List Oper}{o:Oper}(hr:rest=o::r)(h:LW P n ops Q (o::r) e w):LW P n ops Q rest e w:=by subst hr;exact h
theorem MY{id:Nat}(h:Q .normal e w):FG id Q (.exit id) e w:=by
  show(bif Nat.beq id id then Q .normal e w else Q (.exit id) e w)
  rw[Nat.beq_refl];exact h
theorem MS{id id':Nat}(hn:Nat.beq id' id=false)(h:Q (.exit id') e w):FG id Q (.exit id') e w:=by
  show(bif Nat.beq id' id then Q .normal e w else Q (.exit id') e w)
  rw[hn];exact h
theorem M3{id:Nat}(h:Q .normal e w):FG id Q .normal e w:=h
theorem Na{id:Nat}(h:Q .ret e w):FG id Q .ret e w:=h
theorem MX{M:Env->World->Prop}(h:M e w):tY M Q .normal e w:=h
theorem MR{M:Env->World->Prop}(h:Q .ret e w):tY M Q .ret e w:=h
theorem MN{id:Nat}{M:Env->World->Prop}(h:Q (.exit id) e w):tY M Q (.exit id) e w:=h
theorem LW.st{E:Env}{t bt:TypeId}{x y:Operand}{a:Option Nat}{g o:Nat}{cs vs cs':List Value}{L':List Item}(hS:St w0 F0 w L)(i:Nat)(h:∀w':World,St w0 F0 w' L'->LW P n ops Q rest (dF e l) w')
    (hE:E=dF e l:=by exact tJ) (hx:il l x=some (.pointer (some ⟨g,o,none⟩)):=by rfl) (hi:L[i]?=some (bx g bt cs):=by rfl) (ht:fx P t=some a:=by exact iY.h) (hy:il l y=some v:=by rfl)
    (hv:Nf v.cells.toList vs:=by exact iJ) (hm:vs.length=a.getD 1:=by rfl) (hl:Nat.ble (o+vs.length) cs.length=true:=by rfl) (h1:vs.all (·.oneCell')=true:=by rfl) (hc:Nf (xS cs o vs) cs':=by exact iJ) (hL:Nf (L.set i (bx g bt cs')) L':=by exact iJ) :
    LW P n ops Q (⟨none,.store t x y,ty,pos,aft,none⟩::rest) E w:=by
  subst hE;cases hv.eq;cases hc.eq;cases hL.eq;exact LW.Qm hS i hi ht (eY hx) (by rw[eY hy]) hm hl h1 fun w' hS' _=>h w' hS'
theorem LW.bo{E:Env}{t:TypeId}{x:Operand}{cs:List Value}(hS:St w0 F0 w L)(h:∀(g:Nat) (w':World),St w0 F0 w' (bx g t cs::L)->LW P n ops Q rest (dF e ((d,.pointer (some ⟨g,0,none⟩))::l)) w')
    (hE:E=dF e l:=by exact tJ) (hx:il l x=some v:=by rfl) (hv:Nf v.cells.toList cs:=by exact iJ) (hd:Nat.ble (d+1) n=true:=by rfl):LW P n ops Q (⟨some d,.box t x,ty,pos,aft,none⟩::rest) E w:=by
  subst hE;cases hv.eq;exact LW.box (by rw[eY hx]) hS hd fun g w' hS' _=>h g w' hS'
theorem LW.al{E:Env}{t:TypeId}{cs:List Value}[z:uk P t](hS:St w0 F0 w L)(h:∀(g:Nat) (w':World),St w0 F0 w' (bx g t cs::L)->LW P n ops Q rest (dF e ((d,.pointer (some ⟨g,0,none⟩))::l)) w')
    (hE:E=dF e l:=by exact tJ) (hv:Nf z.z.cells.toList cs:=by exact iJ) (hd:Nat.ble (d+1) n=true:=by rfl):LW P n ops Q (⟨some d,.alloc t,ty,pos,aft,none⟩::rest) E w:=by
  subst hE;cases hv.eq;exact LW.alloc z.h hS hd fun g w' hS' _=>h g w' hS'
theorem LW.se{α:Type}[dp α]{E:Env}{t:TypeId}{x y:Operand}{av:Option Nat}{g o0 off c:Nat}{l q:List α}{k:Int}{z z':α}{vs:Array Value}(o:Nat)(hS:St w0 F0 w L)(i:Nat)(hk:idx l k=some z)(hq:some (l.set k.toNat z')=some q)
    (h:∀w':World,St w0 F0 w' (L.set i (sl (some ⟨g,o0,none⟩) c q))->LW P n ops Q rest E w')
    (hi:L[i]?=some (sl (some ⟨g,o0,none⟩) c l):=by rfl) (hx:ev E x=.pointer (some ⟨g,off,none⟩):=by rfl) (hy:(ev E y).cells=vs:=by rfl) (hoff:off=o0+k.toNat*dp.sz α+o:=by rfl) (ht:fx P t=some av:=by exact iY.h)
    (hm:vs.size=av.getD 1:=by rfl) (h1:vs.toList.all (·.oneCell')=true:=by rfl) (hold:Nat.ble (o+vs.size) (dp.sz α)=true:=by rfl)
    (hM:∀(w:World) (cs:List Value) (F G:List Nat),dp.own w cs F z->eH [] w G->∃F',dp.own w (cs.take o++vs.toList++cs.drop (o+vs.toList.length)) F' z'/\(∀b,b∈F'->b∈F\/b∈G)/\(F.Nodup->G.Nodup->(∀b,b∈F->b∉G)->F'.Nodup)):LW P n ops Q (⟨none,.store t x y,ty,pos,aft,none⟩::rest) E w :=
  LW.uR (M:=[]) (L:=L) hS hi hk ht hx hoff hy hm h1 hold hM fun w' hS' _=>h w' (by rwa[Option.some.inj hq]at hS')
theorem ti{α:Type}[dp α]{z z':α}{vs:Array Value}(hv:∀w:World,dp.own w vs.toList [] z':=by exact fun _=>⟨rfl,rfl⟩):∀(w:World) (cs:List Value) (F G:List Nat),dp.own w cs F z->eH [] w G->∃F',dp.own w (cs.take 0++vs.toList++cs.drop (0+vs.toList.length)) F' z'/\(∀b,b∈F'->b∈F\/b∈G)/\(F.Nodup->G.Nodup->(∀b,b∈F->b∉G)->F'.Nodup) :=
  whole (fun w G hG=>by cases(show G=[] from hG);exact hv w)
theorem mD{a:Item}{l:List Item}:∃i:Nat,(a::l)[i]?=some a:=⟨0,rfl⟩
theorem mE{a b:Item}{l:List Item}(h:∃i:Nat,l[i]?=some a):∃i:Nat,(b::l)[i]?=some a:=h.elim fun i hi=>⟨i+1,hi⟩
theorem CW.jn(ds is:List Nat)(xs:List (Nat×Value)){E:Env}{m mm:List (Nat×Value)}{L':List Item}{c:Code}(hS:St w0 F0 w L)
    (hE:E=dF e l:=by exact tJ) (hm:px l ds m:=by exact vv) (hmm:Nf (m++xs) mm:=by exact iJ) (hL:Nf ((iK L is).getD []) L':=by exact iJ)
    (h1:CW P n c (tY (fun e' wb=>En e' mm/\St w0 F0 wb L') Q) E w) (h2:∀e' wb,St w0 F0 wb L'->Q .normal (dF e' mm) wb):CW P n c Q E w :=
  CW.cut _ h1 fun e' wb ⟨hE',hS'⟩=>by obtain⟨e2,rfl⟩:=hE'.out;exact h2 e2 wb hS'
theorem CW.j0(ds is:List Nat)(xs:List (Nat×Value))(ys:List Item){E:Env}{m:List (Nat×Value)}{mm:List (Nat×Value)}{L':List Item}{LL:List Item}{c:Code}(hS:St w0 F0 w L)
    (h1:CW P n c (tY (fun e' wb=>En e' (mm)/\St w0 F0 wb (LL)) Q) E w) (h2:∀e' wb,St w0 F0 wb (LL)->Q .normal (dF e' (mm)) wb)
    (hE:E=dF e l:=by exact tJ) (hm:px l ds m:=by exact vv) (hmm:Nf (m++xs) (mm):=by exact iJ) (hL:Nf ((iK L is).getD []) L':=by exact iJ) (hLL:Nf (L'++ys) (LL):=by exact iJ):CW P n c Q E w :=
  CW.cut _ h1 fun e' wb ⟨hE',hS'⟩=>by obtain⟨e2,rfl⟩:=hE'.out;exact h2 e2 wb hS'
theorem CW.j1(ds is:List Nat){τ0:Type}(xs:τ0->List (Nat×Value))(ys:τ0->List Item){E:Env}{m:List (Nat×Value)}{mm:τ0->List (Nat×Value)}{L':List Item}{LL:τ0->List Item}{c:Code}(hS:St w0 F0 w L)
    (h1:CW P n c (tY (fun e' wb=>∃(g0:τ0),En e' (mm g0)/\St w0 F0 wb (LL g0)) Q) E w) (h2:∀e' (g0:τ0) wb,St w0 F0 wb (LL g0)->Q .normal (dF e' (mm g0)) wb)
    (hE:E=dF e l:=by exact tJ) (hm:px l ds m:=by exact vv) (hmm:∀(g0:τ0),Nf (m++xs g0) (mm g0):=by intro g0;exact iJ) (hL:Nf ((iK L is).getD []) L':=by exact iJ) (hLL:∀(g0:τ0),Nf (L'++ys g0) (LL g0):=by intro g0;exact iJ):CW P n c Q E w :=
  CW.cut _ h1 fun e' wb ⟨g0,hE',hS'⟩=>by obtain⟨e2,rfl⟩:=hE'.out;exact h2 e2 g0 wb hS'
theorem CW.j2(ds is:List Nat){τ0 τ1:Type}(xs:τ0->τ1->List (Nat×Value))(ys:τ0->τ1->List Item){E:Env}{m:List (Nat×Value)}{mm:τ0->τ1->List (Nat×Value)}{L':List Item}{LL:τ0->τ1->List Item}{c:Code}(hS:St w0 F0 w L)
    (h1:CW P n c (tY (fun e' wb=>∃(g0:τ0), ∃(g1:τ1),En e' (mm g0 g1)/\St w0 F0 wb (LL g0 g1)) Q) E w) (h2:∀e' (g0:τ0) (g1:τ1) wb,St w0 F0 wb (LL g0 g1)->Q .normal (dF e' (mm g0 g1)) wb)
    (hE:E=dF e l:=by exact tJ) (hm:px l ds m:=by exact vv) (hmm:∀(g0:τ0) (g1:τ1),Nf (m++xs g0 g1) (mm g0 g1):=by intro g0 g1;exact iJ) (hL:Nf ((iK L is).getD []) L':=by exact iJ) (hLL:∀(g0:τ0) (g1:τ1),Nf (L'++ys g0 g1) (LL g0 g1):=by intro g0 g1;exact iJ):CW P n c Q E w :=
  CW.cut _ h1 fun e' wb ⟨g0,g1,hE',hS'⟩=>by obtain⟨e2,rfl⟩:=hE'.out;exact h2 e2 g0 g1 wb hS'
theorem CW.j4(ds is:List Nat){τ0 τ1 τ2 τ3:Type}(xs:τ0->τ1->τ2->τ3->List (Nat×Value))(ys:τ0->τ1->τ2->τ3->List Item){E:Env}{m:List (Nat×Value)}{mm:τ0->τ1->τ2->τ3->List (Nat×Value)}{L':List Item}{LL:τ0->τ1->τ2->τ3->List Item}{c:Code}(hS:St w0 F0 w L)
    (h1:CW P n c (tY (fun e' wb=>∃(g0:τ0), ∃(g1:τ1), ∃(g2:τ2), ∃(g3:τ3),En e' (mm g0 g1 g2 g3)/\St w0 F0 wb (LL g0 g1 g2 g3)) Q) E w) (h2:∀e' (g0:τ0) (g1:τ1) (g2:τ2) (g3:τ3) wb,St w0 F0 wb (LL g0 g1 g2 g3)->Q .normal (dF e' (mm g0 g1 g2 g3)) wb)
    (hE:E=dF e l:=by exact tJ) (hm:px l ds m:=by exact vv) (hmm:∀(g0:τ0) (g1:τ1) (g2:τ2) (g3:τ3),Nf (m++xs g0 g1 g2 g3) (mm g0 g1 g2 g3):=by intro g0 g1 g2 g3;exact iJ) (hL:Nf ((iK L is).getD []) L':=by exact iJ) (hLL:∀(g0:τ0) (g1:τ1) (g2:τ2) (g3:τ3),Nf (L'++ys g0 g1 g2 g3) (LL g0 g1 g2 g3):=by intro g0 g1 g2 g3;exact iJ):CW P n c Q E w :=
  CW.cut _ h1 fun e' wb ⟨g0,g1,g2,g3,hE',hS'⟩=>by obtain⟨e2,rfl⟩:=hE'.out;exact h2 e2 g0 g1 g2 g3 wb hS'
section
variable {σ β:Type} {c:Code} {E:Env} {m:List (Nat×Value)} {g gb:σ->List (Nat×Value)} {L':List Item} {N:Nat} {init:σ}
abbrev RT(P:Program)(fr:Array ResultVar)(V:β->Value)(w0:World)(F0:List Nat)(r:β)(x:Exit)(e:Env)(w:World):Prop:=x=.ret/\∃u,u=r/\∃v,gL P fr e w v/\v=V u/\St w0 F0 w []
theorem CW.lb(ds is bs:List Nat)(kx:Nat)(f:σ->List (Nat×Value)){body:σ->Option (σ⊕σ)}{o:σ}(hS:St w0 F0 w L)(ho:Kx.iter body N init=some o)
    (hE:E=dF e l:=by exact tJ) (hm:px l ds m:=by exact vv) (hg:∀s,Nf (m++f s) (g s):=by intro s;exact iJ) (hgb:∀s,px (g s) bs (gb s):=by intro s;exact vv) (hL:Nf ((iK L is).getD []) L':=by exact iJ)
    (h0:En (dF e l) (g init):=by repeat (first|exact trivial|(refine⟨rfl,?_⟩))) (hp:iK L is=some L':=by rfl) (hn:oF is=true:=by rfl)
    (hb:∀(s:σ) (e':Env) (wb:World) (o':σ⊕σ),St w0 F0 wb L'->body s=some o'->CW P n c (fun x e w'=>match o' with
      | .inl s'=>x=.normal/\En e (g s')/\St w0 F0 w' L'
      | .inr r=>(match x with|.normal=>False|_=>True)/\x=.exit kx/\En e (gb r)/\St w0 F0 w' L') (dF e' (g s)) wb) :
    CW P n (.loop c) (fun x e wb=>x=.exit kx/\En e (gb o)/\St w0 F0 wb L') E w:=by
  subst hE
  exact CW.iter (fun s e wb=>En e (g s)/\St w0 F0 wb L') (fun r x e wb=>x=.exit kx/\En e (gb r)/\St w0 F0 wb L')
    (fun s e' wb o' ⟨hE',hS'⟩ hbd=>by obtain⟨e2,rfl⟩:=hE'.out;exact(hb s e2 wb o' hS' hbd).mono fun x e w hq=>by rcases o' with _|_<;>exact hq) N init _ w o ⟨h0,hS.pick is hp hn⟩ ho
theorem CW.lx(ds is bs:List Nat)(kx:Nat)(f:σ->List (Nat×Value))(T:β->Exit->Env->World->Prop){body:σ->Option (σ⊕(σ⊕β))}{o:σ⊕β}(hS:St w0 F0 w L)(ho:Kx.iter body N init=some o)
    (hE:E=dF e l:=by exact tJ) (hm:px l ds m:=by exact vv) (hg:∀s,Nf (m++f s) (g s):=by intro s;exact iJ) (hgb:∀s,px (g s) bs (gb s):=by intro s;exact vv) (hL:Nf ((iK L is).getD []) L':=by exact iJ)
    (h0:En (dF e l) (g init):=by repeat (first|exact trivial|(refine⟨rfl,?_⟩))) (hp:iK L is=some L':=by rfl) (hn:oF is=true:=by rfl)
    (hb:∀(s:σ) (e':Env) (wb:World) (o':σ⊕(σ⊕β)),St w0 F0 wb L'->body s=some o'->CW P n c (fun x e w'=>match o' with
      | .inl s'=>x=.normal/\En e (g s')/\St w0 F0 w' L'
      | .inr r=>(match x with|.normal=>False|_=>True)/\match r with|.inl b=>x=.exit kx/\En e (gb b)/\St w0 F0 w' L'|.inr r=>T r x e w') (dF e' (g s)) wb) :
    CW P n (.loop c) (fun x e wb=>match o with|.inl b=>x=.exit kx/\En e (gb b)/\St w0 F0 wb L'|.inr r=>T r x e wb) E w:=by
  subst hE
  exact(CW.iter (fun s e wb=>En e (g s)/\St w0 F0 wb L') (fun r x e wb=>match r with|.inl b=>x=.exit kx/\En e (gb b)/\St w0 F0 wb L'|.inr r=>T r x e wb)
    (fun s e' wb o' ⟨hE',hS'⟩ hbd=>by obtain⟨e2,rfl⟩:=hE'.out;exact(hb s e2 wb o' hS' hbd).mono fun x e w hq=>by rcases o' with _|(_|_)<;>exact hq) N init _ w o ⟨h0,hS.pick is hp hn⟩ ho).mono fun x e w hq=>by rcases o with _|_<;>exact hq
end
theorem CW.it{σ ρ:Type}{c:Code}{body:σ->Option (σ⊕ρ)}{N:Nat}{s0:σ}{r:ρ}{Q':iO}(ho:Kx.iter body N s0=some r)(R:σ->Env->World->Prop)(Q:ρ->iO)
    (hb:∀(s:σ) (e:Env) (w:World) (o:σ⊕ρ),R s e w->body s=some o->CW P n c (fun x e' w'=>match o with
      | .inl s'=>x=.normal/\R s' e' w'
      | .inr r=>(match x with|.normal=>False|_=>True)/\Q r x e' w') e w) (hR:R s0 e w) (k:∀x e w,Q r x e w->Q' x e w):CW P n (.loop c) Q' e w :=
  CW.mono (CW.iter R Q hb N s0 e w r hR ho) k
theorem CW.ie{σ:Type}{c:Code}{body:σ->Option (σ⊕σ)}{N:Nat}{s0 r:σ}{Q':iO}(ho:Kx.iter body N s0=some r)(kx:Nat)(R:σ->Env->World->Prop)
    (hb:∀(s:σ) (e:Env) (w:World) (o:σ⊕σ),R s e w->body s=some o->CW P n c (fun x e' w'=>match o with
      | .inl s'=>x=.normal/\R s' e' w'
      | .inr r=>(match x with|.normal=>False|_=>True)/\x=.exit kx/\R r e' w') e w) (hR:R s0 e w) (k:∀e w,R r e w->Q' (.exit kx) e w):CW P n (.loop c) Q' e w :=
  CW.mono (CW.iter R (fun r x e w=>x=.exit kx/\R r e w) (fun s e w o h1 h2=>CW.mono (hb s e w o h1 h2) fun x e w h=>by cases o<;>exact h) N s0 e w r hR ho) (fun x e w h=>by obtain⟨rfl,h⟩:=h;exact k e w h)
theorem CW.i0{σ:Type}{c:Code}{body:σ->Option (σ⊕σ)}{N:Nat}{s0 r:σ}{Q':iO}(ho:Kx.iter body N s0=some r)(kx:Nat)(ds is:List Nat)(xs:σ->List (Nat×Value))(ys:σ->List Item){E:Env}{m:List (Nat×Value)}{mm:σ->List (Nat×Value)}{L':List Item}{LL:σ->List Item}(hS:St w0 F0 w L)
    (hR:En E (mm s0)/\St w0 F0 w (LL s0))
    (hb:∀(s:σ) (e':Env) (wb:World) (o:σ⊕σ),St w0 F0 wb (LL s)->body s=some o->CW P n c (fun x e w'=>match o with
      | .inl s'=>x=.normal/\En e (mm s')/\St w0 F0 w' (LL s')
      | .inr r=>(match x with|.normal=>False|_=>True)/\x=.exit kx/\En e (mm r)/\St w0 F0 w' (LL r)) (dF e' (mm s)) wb)
    (k:∀e' wb,St w0 F0 wb (LL r)->Q' (.exit kx) (dF e' (mm r)) wb)
    (hE:E=dF e l:=by exact tJ) (hm:px l ds m:=by exact vv) (hmm:∀s:σ,Nf (m++xs s) (mm s):=by intro s;exact iJ) (hL:Nf ((iK L is).getD []) L':=by exact iJ) (hLL:∀s:σ,Nf (L'++ys s) (LL s):=by intro s;exact iJ):CW P n (.loop c) Q' E w :=
  CW.ie ho kx (fun s e wb=>En e (mm s)/\St w0 F0 wb (LL s)) (fun s e w o ⟨hE',hS'⟩ hb'=>by obtain⟨e2,rfl⟩:=hE'.out;exact hb s e2 w o hS' hb') hR fun e' wb ⟨hE',hS'⟩=>by obtain⟨e2,rfl⟩:=hE'.out;exact k e2 wb hS'
theorem CW.i2{σ τ0 τ1:Type}{c:Code}{body:σ->Option (σ⊕σ)}{N:Nat}{s0 r:σ}{Q':iO}(ho:Kx.iter body N s0=some r)(kx:Nat)(ds is:List Nat)(xs:σ->τ0->τ1->List (Nat×Value))(ys:σ->τ0->τ1->List Item){E:Env}{m:List (Nat×Value)}{mm:σ->τ0->τ1->List (Nat×Value)}{L':List Item}{LL:σ->τ0->τ1->List Item}(hS:St w0 F0 w L)
    (hR:∃(g0:τ0), ∃(g1:τ1),En E (mm s0 g0 g1)/\St w0 F0 w (LL s0 g0 g1))
    (hb:∀(s:σ) (e':Env) (g0:τ0) (g1:τ1) (wb:World) (o:σ⊕σ),St w0 F0 wb (LL s g0 g1)->body s=some o->CW P n c (fun x e w'=>match o with
      | .inl s'=>x=.normal/\∃(g0:τ0), ∃(g1:τ1),En e (mm s' g0 g1)/\St w0 F0 w' (LL s' g0 g1)
      | .inr r=>(match x with|.normal=>False|_=>True)/\x=.exit kx/\∃(g0:τ0), ∃(g1:τ1),En e (mm r g0 g1)/\St w0 F0 w' (LL r g0 g1)) (dF e' (mm s g0 g1)) wb)
    (k:∀e' (g0:τ0) (g1:τ1) wb,St w0 F0 wb (LL r g0 g1)->Q' (.exit kx) (dF e' (mm r g0 g1)) wb)
    (hE:E=dF e l:=by exact tJ) (hm:px l ds m:=by exact vv) (hmm:∀(s:σ) (g0:τ0) (g1:τ1),Nf (m++xs s g0 g1) (mm s g0 g1):=by intro s g0 g1;exact iJ) (hL:Nf ((iK L is).getD []) L':=by exact iJ) (hLL:∀(s:σ) (g0:τ0) (g1:τ1),Nf (L'++ys s g0 g1) (LL s g0 g1):=by intro s g0 g1;exact iJ):CW P n (.loop c) Q' E w :=
  CW.ie ho kx (fun s e wb=>∃(g0:τ0), ∃(g1:τ1),En e (mm s g0 g1)/\St w0 F0 wb (LL s g0 g1)) (fun s e w o ⟨g0,g1,hE',hS'⟩ hb'=>by obtain⟨e2,rfl⟩:=hE'.out;exact hb s e2 g0 g1 w o hS' hb') hR fun e' wb ⟨g0,g1,hE',hS'⟩=>by obtain⟨e2,rfl⟩:=hE'.out;exact k e2 g0 g1 wb hS'
theorem CW.i4{σ τ0 τ1 τ2 τ3:Type}{c:Code}{body:σ->Option (σ⊕σ)}{N:Nat}{s0 r:σ}{Q':iO}(ho:Kx.iter body N s0=some r)(kx:Nat)(ds is:List Nat)(xs:σ->τ0->τ1->τ2->τ3->List (Nat×Value))(ys:σ->τ0->τ1->τ2->τ3->List Item){E:Env}{m:List (Nat×Value)}{mm:σ->τ0->τ1->τ2->τ3->List (Nat×Value)}{L':List Item}{LL:σ->τ0->τ1->τ2->τ3->List Item}(hS:St w0 F0 w L)
    (hR:∃(g0:τ0), ∃(g1:τ1), ∃(g2:τ2), ∃(g3:τ3),En E (mm s0 g0 g1 g2 g3)/\St w0 F0 w (LL s0 g0 g1 g2 g3))
    (hb:∀(s:σ) (e':Env) (g0:τ0) (g1:τ1) (g2:τ2) (g3:τ3) (wb:World) (o:σ⊕σ),St w0 F0 wb (LL s g0 g1 g2 g3)->body s=some o->CW P n c (fun x e w'=>match o with
      | .inl s'=>x=.normal/\∃(g0:τ0), ∃(g1:τ1), ∃(g2:τ2), ∃(g3:τ3),En e (mm s' g0 g1 g2 g3)/\St w0 F0 w' (LL s' g0 g1 g2 g3)
      | .inr r=>(match x with|.normal=>False|_=>True)/\x=.exit kx/\∃(g0:τ0), ∃(g1:τ1), ∃(g2:τ2), ∃(g3:τ3),En e (mm r g0 g1 g2 g3)/\St w0 F0 w' (LL r g0 g1 g2 g3)) (dF e' (mm s g0 g1 g2 g3)) wb)
    (k:∀e' (g0:τ0) (g1:τ1) (g2:τ2) (g3:τ3) wb,St w0 F0 wb (LL r g0 g1 g2 g3)->Q' (.exit kx) (dF e' (mm r g0 g1 g2 g3)) wb)
    (hE:E=dF e l:=by exact tJ) (hm:px l ds m:=by exact vv) (hmm:∀(s:σ) (g0:τ0) (g1:τ1) (g2:τ2) (g3:τ3),Nf (m++xs s g0 g1 g2 g3) (mm s g0 g1 g2 g3):=by intro s g0 g1 g2 g3;exact iJ) (hL:Nf ((iK L is).getD []) L':=by exact iJ) (hLL:∀(s:σ) (g0:τ0) (g1:τ1) (g2:τ2) (g3:τ3),Nf (L'++ys s g0 g1 g2 g3) (LL s g0 g1 g2 g3):=by intro s g0 g1 g2 g3;exact iJ):CW P n (.loop c) Q' E w :=
  CW.ie ho kx (fun s e wb=>∃(g0:τ0), ∃(g1:τ1), ∃(g2:τ2), ∃(g3:τ3),En e (mm s g0 g1 g2 g3)/\St w0 F0 wb (LL s g0 g1 g2 g3)) (fun s e w o ⟨g0,g1,g2,g3,hE',hS'⟩ hb'=>by obtain⟨e2,rfl⟩:=hE'.out;exact hb s e2 g0 g1 g2 g3 w o hS' hb') hR fun e' wb ⟨g0,g1,g2,g3,hE',hS'⟩=>by obtain⟨e2,rfl⟩:=hE'.out;exact k e2 g0 g1 g2 g3 wb hS'
theorem fj{R:Value->Prop}{u:Value}(hS:St w0 F0 w L)(hR:R u:=by exact gL.one (dE.t rfl)):∃v,R v/\v=u/\St w0 F0 w []:=⟨u,hR,rfl,hS.pick [] rfl rfl⟩
theorem fi{A:Prop}{R:Value->Prop}{u:Value}(hS:St w0 F0 w L)(hA:A:=by exact trivial)(hR:R u:=by exact gL.one (dE.t rfl)):A/\∃v,R v/\v=u/\St w0 F0 w []:=⟨hA,fj hS hR⟩
theorem St.lF(hS:St w0 F0 w L)(is js:List Nat){L1 L2:List Item}(h1:Nf ((iK L is).getD []) L1:=by exact iJ)(h2:Nf ((iK L js).getD []) L2:=by exact iJ)(hp:iK L (is++js)=some (L1++L2):=by rfl)(hn:oF (is++js)=true:=by rfl):∃F,mG w0 F0 w L1 L2 F:=(hS.pick (is++js) hp hn).Pb
theorem oi{α:Type}{a b:α}(h:some a=some b):a=b:=Option.some.inj h
theorem LW.cl{f:FuncId}{as:Array Operand}{ts:Array TypeId}{al:List Value}{K:Value->World->Prop}(q:di P f al.toArray w K)(h:∀v w',K v w'->LW P n ops Q rest (im e d v) w')
    (hp:tO P f=true:=by kernel_rfl) (hd:Nat.ble (d+1) n=true:=by rfl) (hargs:as.toList.map (ev e)=al:=by rfl) :
    LW P n ops Q (⟨some d,.call { callee:=.value (.func f),args:=as,argTypes:=ts },ty,pos,aft,none⟩::rest) e w:=LW.call hp hd hargs (di.mono q h)
theorem LW.c0{f:FuncId}{as:Array Operand}{ts:Array TypeId}{al:List Value}{u:Value}(q:di P f al.toArray w fun v w'=>v=u/\St w [] w' [])(hS:St w0 F0 w L)(h:∀w',St w0 F0 w' L->LW P n ops Q rest (im e d u) w')
    (hp:tO P f=true:=by kernel_rfl) (hd:Nat.ble (d+1) n=true:=by rfl) (hargs:as.toList.map (ev e)=al:=by rfl) :
    LW P n ops Q (⟨some d,.call { callee:=.value (.func f),args:=as,argTypes:=ts },ty,pos,aft,none⟩::rest) e w :=
  LW.cl q (fun v w' ⟨h1,h2⟩=>by subst h1;exact h w' (by simpa using hS.add h2)) hp hd hargs
theorem gI{A B:Prop}(a:A)(f:(Unit->A)->B:=by
    intro a
    (first
      | ((with_reducible apply gS.mv);rfl;rfl;(decide +kernel))
      | ((with_reducible apply gS.fa);(exact gq.h);rfl;rfl;(decide +kernel))
      | ((with_reducible apply gS.ld);rfl;assumption;(repeat (first|exact mD|apply mE));(exact iY.h);rfl;rfl;(decide +kernel))
      | ((with_reducible apply gS.bin);rfl;rfl;rfl;rfl;(decide +kernel))
      | ((with_reducible apply gS.Lv);rfl;(first|assumption|rfl);rfl;rfl;(decide +kernel))
      | ((with_reducible apply gS.Ld);rfl;(first|assumption|rfl);rfl;rfl;(decide +kernel))
      | ((with_reducible apply gS.as);rfl;rfl;(decide +kernel))
      | ((with_reducible apply gS.J0);rfl;assumption;(repeat (first|exact mD|apply mE));(exact iY.h);rfl;rfl;(exact iJ);(decide +kernel))
      | ((with_reducible apply gS.len);(exact rL.h);rfl;rfl;(decide +kernel))
      | ((with_reducible apply gS.JZ);(exact rL.h);(exact uf.h);rfl;rfl;assumption;assumption;rfl;(decide +kernel))
      | ((with_reducible apply gS.ext);rfl;rfl;rfl;(decide +kernel))
      | ((with_reducible apply gS.not);rfl;rfl;(decide +kernel))
      | ((with_reducible apply gS.neg);rfl;rfl;(decide +kernel))
      | ((with_reducible apply gS.nc);rfl;rfl;(decide +kernel)))
    exact a ()):B:=f fun _=>a
theorem gA{A B:Prop}(a:A)(f:(Unit->A)->B:=by
    intro a
    with_reducible apply AW.OD
    (first
      | ((apply AW.gN 0);(first|exact Nx.set _ _|exact Nx.start _);rfl;rfl;refine gI ?_)
      | ((apply AW.gY 0);(first|exact Nx.set _ _|exact Nx.start _);rfl;rfl;rfl;rfl;(first|assumption|rfl);refine gI ?_)
      | ((apply AW.g0 0);(first|exact Nx.set _ _|exact Nx.start _);rfl;rfl;rfl;rfl;(first|assumption|rfl);(decide +kernel);rfl)
      | ((apply AW.gU 0);(first|exact Nx.set _ _|exact Nx.start _);rfl;rfl;rfl;rfl;(decide +kernel);rfl)
      | ((apply AW.gN 1);(first|exact Nx.set _ _|exact Nx.start _);rfl;(decide +kernel);refine gI ?_)
      | ((apply AW.gY 1);(first|exact Nx.set _ _|exact Nx.start _);rfl;(decide +kernel);rfl;rfl;(first|assumption|rfl);refine gI ?_)
      | ((apply AW.g0 1);(first|exact Nx.set _ _|exact Nx.start _);rfl;(decide +kernel);rfl;rfl;(first|assumption|rfl);(decide +kernel);rfl)
      | ((apply AW.gU 1);(first|exact Nx.set _ _|exact Nx.start _);rfl;(decide +kernel);rfl;rfl;(decide +kernel);rfl)
      | ((apply AW.gN 2);(first|exact Nx.set _ _|exact Nx.start _);rfl;(decide +kernel);refine gI ?_)
      | ((apply AW.gY 2);(first|exact Nx.set _ _|exact Nx.start _);rfl;(decide +kernel);rfl;rfl;(first|assumption|rfl);refine gI ?_)
      | ((apply AW.g0 2);(first|exact Nx.set _ _|exact Nx.start _);rfl;(decide +kernel);rfl;rfl;(first|assumption|rfl);(decide +kernel);rfl)
      | ((apply AW.gU 2);(first|exact Nx.set _ _|exact Nx.start _);rfl;(decide +kernel);rfl;rfl;(decide +kernel);rfl)
      | ((apply AW.done);(decide +kernel)))
    exact a ()):B:=f fun _=>a
theorem go{A B:Prop}(a:A)(f:(Unit->A)->B:=by
    intro a
    repeat (first
      | ((with_reducible apply LW.nr);(repeat first|(with_reducible exact rfl)|(with_reducible apply yC)))
      | ((with_reducible apply LW.yes);rfl;rfl;(first|assumption|rfl))
      | ((with_reducible apply LW.no);rfl;rfl;(first|assumption|rfl);rfl)
      | ((with_reducible apply LW.mv);rfl;rfl)
      | ((with_reducible apply LW.fa);(exact gq.h);rfl;rfl)
      | ((with_reducible apply LW.ld);rfl;assumption;(repeat (first|exact mD|apply mE));(exact iY.h);rfl;rfl)
      | ((with_reducible apply LW.bin);rfl;rfl;rfl;rfl)
      | ((with_reducible apply LW.Lv);rfl;(first|assumption|rfl);rfl;rfl)
      | ((with_reducible apply LW.Ld);rfl;(first|assumption|rfl);rfl;rfl)
      | ((with_reducible apply LW.as);rfl;rfl)
      | ((with_reducible apply LW.J0);rfl;assumption;(repeat (first|exact mD|apply mE));(exact iY.h);rfl;rfl;(exact iJ))
      | ((with_reducible apply LW.len);(exact rL.h);rfl;rfl)
      | ((with_reducible apply LW.JZ);(exact rL.h);(exact uf.h);rfl;rfl;assumption;assumption;rfl)
      | ((with_reducible apply LW.Pu);rfl;rfl;rfl)
      | ((with_reducible apply LW.ext);rfl;rfl;rfl)
      | ((with_reducible apply LW.not);rfl;rfl)
      | ((with_reducible apply LW.neg);rfl;rfl)
      | with_reducible apply LW.nil
      | ((with_reducible apply CW.nr);(repeat first|(with_reducible exact rfl)|(with_reducible apply yC)))
      | with_reducible apply CW.seq
      | with_reducible apply MX
      | with_reducible apply MY
      | with_reducible apply M3
      | with_reducible apply Na
      | with_reducible apply MN
      | with_reducible apply MR
      | ((with_reducible apply MS);(exact rfl))
      | with_reducible apply CW.region
      | with_reducible apply CW.skip
      | with_reducible apply CW.block
      | with_reducible apply CW.exit
      | (with_reducible apply CW.ret)
      | ((with_reducible apply AW.nr);(repeat first|(with_reducible exact rfl)|(with_reducible apply yC)))
      | refine gA ?_
      | ((fail_if_success (with_reducible apply LW.Qh));(with_reducible apply LW.ex);rfl))
    exact a ()):B:=f fun _=>a
theorem gs{A B:Prop}(a:A)(f:(Unit->A)->B:=by
    intro a
    repeat (first
      | ((with_reducible apply LW.nr);(repeat first|(with_reducible exact rfl)|(with_reducible apply yC)))
      | ((with_reducible apply LW.yes);rfl;rfl;(first|assumption|rfl))
      | ((with_reducible apply LW.no);rfl;rfl;(first|assumption|rfl);rfl)
      | ((with_reducible apply LW.mv);rfl;rfl)
      | ((with_reducible apply LW.fa);(exact gq.h);rfl;rfl)
      | ((with_reducible apply LW.ld);rfl;assumption;(repeat (first|exact mD|apply mE));(exact iY.h);rfl;rfl)
      | ((with_reducible apply LW.bin);rfl;rfl;rfl;rfl)
      | ((with_reducible apply LW.Lv);rfl;(first|assumption|rfl);rfl;rfl)
      | ((with_reducible apply LW.Ld);rfl;(first|assumption|rfl);rfl;rfl)
      | ((with_reducible apply LW.as);rfl;rfl)
      | ((with_reducible apply LW.J0);rfl;assumption;(repeat (first|exact mD|apply mE));(exact iY.h);rfl;rfl;(exact iJ))
      | ((with_reducible apply LW.len);(exact rL.h);rfl;rfl)
      | ((with_reducible apply LW.JZ);(exact rL.h);(exact uf.h);rfl;rfl;assumption;assumption;rfl)
      | ((with_reducible apply LW.Pu);rfl;rfl;rfl)
      | ((with_reducible apply LW.ext);rfl;rfl;rfl)
      | ((with_reducible apply LW.not);rfl;rfl)
      | ((with_reducible apply LW.neg);rfl;rfl)
      | with_reducible apply LW.nil
      | ((with_reducible apply CW.nr);(repeat first|(with_reducible exact rfl)|(with_reducible apply yC)))
      | with_reducible apply CW.seq
      | with_reducible apply MX
      | with_reducible apply MY
      | with_reducible apply M3
      | with_reducible apply Na
      | with_reducible apply MN
      | with_reducible apply MR
      | ((with_reducible apply MS);(exact rfl))
      | with_reducible apply CW.skip
      | ((with_reducible apply AW.nr);(repeat first|(with_reducible exact rfl)|(with_reducible apply yC)))
      | refine gA ?_
      | ((fail_if_success (with_reducible apply LW.Qh));(with_reducible apply LW.ex);rfl))
    exact a ()):B:=f fun _=>a
end
section
variable {P:Program} {n:Nat} {Q:iO} {e:Env} {w w0 w':World} {F0:List Nat} {L:List Item} {ops:Array Oper} {fuel:Nat} {E:nG} {listed:Array Bool} {i j:Nat}
abbrev vI(n:Int):Value:=.int .i64 n
abbrev vS(a:Option Addr)(n c:Nat):Value:=.slice a n c
abbrev Ad:=Option Addr
theorem jO(i:Nat){o:Oper}(h:LW P n ops (fun x e' w'=>x=.normal/\Kept ops i E w w'/\AW P n ops Q fuel E (listed.setIfInBounds i true) e' w') [o] e w)(ho:ops[i]?=some o:=by rfl)(hr:Region.ready .any ops listed=[i]:=by kernel_rfl):AW P n ops Q (fuel+1) E listed e w:=AW.one hr ⟨o,ho,h⟩
theorem jN(k:Kept ops j E w0 w)(h:AW P n ops Q fuel E (listed.setIfInBounds j true) e w):LW P n ops (fun x e' w'=>x=.normal/\Kept ops j E w0 w'/\AW P n ops Q fuel E (listed.setIfInBounds j true) e' w') [] e w:=LW.nil ⟨rfl,k,h⟩
theorem jW{C:World->Prop}(k:Kept ops i E w w')(h:waits ops i j=true:=by kernel_rfl):Kept ops i ((j,C)::E) w w':=.w h k
theorem jZ:Kept ops i [] w w':=.n
theorem St.ce(h:St w0 F0 w L)(i:Nat){g:Nat}{ty:TypeId}{cs:List Value}(hi:L[i]?=some (bx g ty cs):=by rfl):w.heap[g]?=some (.cells cs.toArray ty (0,0)):=St.cell (h:=h) hi
theorem ob{α β:Type}{x:Option α}{f:α->Option β}{b:β}(h:x.bind f=some b):∃a,x=some a/\f a=some b:=Option.bind_eq_some_iff.1 h
theorem ch{α:Type}{y z:Option α}{r:α}{c1 c2:Code}{x:Operand}{b:Bool}(h:(bif b then y else z)=some r)(h1:b=true->y=some r->CW P n c1 Q e w)(h2:b=false->z=some r->CW P n c2 Q e w)(hx:ev e x=.bool b:=by rfl):CW P n (.cond x c1 c2) Q e w:=CW.cond hx (fun q=>h1 q (Q1 h q)) (fun q=>h2 q (Q9 h q))
theorem St.pk(is:List Nat){M:List Item}(h:St w0 F0 w L)(hp:iK L is=some M:=by exact rfl)(hn:oF is=true:=by exact rfl):St w0 F0 w M:=h.pick is hp hn
theorem St.po(is:List Nat){M:List Item}{A:Prop}(h:St w0 F0 w L)(hp:iK L is=some M:=by exact rfl)(hn:oF is=true:=by exact rfl)(a:A:=by(repeat' (first|exact trivial|exact rfl|refine⟨?_,?_⟩))):A/\St w0 F0 w M:=⟨a,h.pick is hp hn⟩
end
abbrev rb{α:Type}[dp α](w:World)(a:Option Addr)(c:Nat)(l:List α):Prop:=dX (eJ w []) w a c l
theorem gb{A B:Prop}{α β:Type}{x:Option α}{k:α->Option β}{b:β}(h:x.bind k=some b)(g:∀y,x=some y->k y=some b->A)(f:autoParam ((Unit->A)->B) go._auto_1):B:=f fun _=>by
  obtain⟨y,h1,h2⟩:=Option.bind_eq_some_iff.1 h;exact g y h1 h2
section
variable {P:Program} {n:Nat} {ops:Array Oper} {Q:iO} {rest:List Oper} {e:Env} {w:World} {d:Nat} {ty:TypeId} {pos:String} {aft:Array Edge} {t el:TypeId} {x y:Operand} {b o l c m:Nat} {k:IntKind} {i:Int}
theorem ix[hu:rL P t (.slice el)][hz:uf P el m](h0:0<=i)(h1:i<l)(h:LW P n ops Q rest (im e d (.pointer (some ⟨b,o+i.toNat*m,none⟩))) w)(hx:ev e x=.slice (some ⟨b,o,none⟩) l c:=by rfl)(hy:ev e y=.int k i:=by rfl)(hd:Nat.ble (d+1) n=true:=by rfl):
    LW P n ops Q (⟨some d,.indexAddr t x y,ty,pos,aft,none⟩::rest) e w:=LW.u (dL.ix hu.h hz.h hx hy h0 h1) hd h
end
end Go.Kx
