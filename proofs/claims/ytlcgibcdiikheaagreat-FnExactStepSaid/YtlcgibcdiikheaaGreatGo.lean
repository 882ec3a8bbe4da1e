import Derived.Test.YtlcgibcdiikheaaGreatLaw
namespace Go.Kx
open Go Go.RowKit
set_option linter.unusedVariables false
set_option linter.unusedSimpArgs false
class sr (P:Program) (t:TypeId) (a:outParam (Option Nat)):Prop where
  h:rr P t=some a
class rj (P:Program) (t:TypeId) (k:Nat) (off:outParam Nat) (a:outParam (Option Nat)):Prop where
  h:fo P t k=some (off,a)
class Bg (P:Program) (t:TypeId) (m:outParam Nat):Prop where
  h:wi P t=some m
class wN (P:Program) (t:TypeId) (ds:outParam TypeDesc):Prop where
  h:P.underlying t=some ds
class Ca (P:Program) (t:TypeId) where
  z:Value
  h:zeroV P t=some z
inductive Nf {α:Type}:List α→List α→Prop
  | nil {l:List α} (h:l=[]):Nf l []
  | cons {l t m:List α} {a:α} (h:l=a::t) (k:Nf t m):Nf l (a::m)
theorem Nf.eq {α:Type}:∀ {l m:List α},Nf l m→l=m
  | _,_,.nil h=>h
  | _,_,.cons h k=>by rw [h,k.eq]
def E5:List (Nat×Value)→Nat→Option Value
  | [],_=>none
  | (d,v)::l,i=>bif Nat.beq i d then some v else E5 l i
def sP (l:List (Nat×Value)):Operand→Option Value
  | .tmp t=>E5 l t
  | .const v=>some v
  | .global g=>some (.pointer (some ⟨g,0,none⟩))
  | .func f=>some (.func (.func f) #[] #[])
theorem A6 {e:Env}:∀ {l:List (Nat×Value)} {i:Nat} {v:Value},E5 l i=some v→qy e l i=v
  | [],_,_,h=>by cases h
  | (d,u)::l,i,v,h=>by
    unfold E5 at h;unfold qy tm;cases hb:Nat.beq i d
    · rw [hb] at h;exact A6 h
    · rw [hb] at h;exact Option.some.inj h
theorem rC {e:Env} {l:List (Nat×Value)} {x:Operand} {v:Value} (h:sP l x=some v):ev (qy e l) x=v:=by
  cases x with
  | tmp t=>exact A6 h
  | const u=>exact Option.some.inj h
  | global g=>exact Option.some.inj h
  | func f=>exact Option.some.inj h
def FF:Nat→List Value→List (Nat×Value)
  | _,[]=>[]
  | k,v::l=>(k,v)::FF (k+1) l
theorem Ib:∀ (l:List Value) (k i:Nat),qy (fun _=>undef) (FF k l) i=if k≤i then l.getD (i - k) undef else undef
  | [],k,i=>by simp [FF,qy]
  | v::l,k,i=>by
    unfold FF qy tm;cases hb:Nat.beq i k
    · have hne:i ≠ k:=fun e=>by subst e;simp at hb
      rw [Vx,Ib l (k+1) i]
      by_cases h1:k+1≤i
      · rw [if_pos h1,if_pos (by omega),show i - k=(i - (k+1))+1 by omega];rfl
      · rw [if_neg h1,if_neg (by omega)]
    · have:=Nat.eq_of_beq_eq_true hb;subst this;simp
theorem Rd (args:Array Value):I1 args=qy (fun _=>undef) (FF 0 args.toList):=by
  funext i
  rw [Ib];simp [I1,Array.getD_eq_getD_getElem?,List.getD_eq_getElem?_getD]
theorem pY.fn {P:Program} {n:Nat} {w:World} {f:FuncId} {fn:Func} {c:Code} {args:Array Value} {K:Value→World→Prop} (hf:P.funcs[f]?=some fn)
    (h:∀ e,CW P n c (fun x e' w'=>(match x with | .ret=>True | .normal=>True | _=>False)∧∃ v,tu P fn.results e' w' v∧K v w') (qy e (FF 0 args.toList)) w) (hb:fn.body=some c:=by rfl) (hn:fn.ntmps=n:=by rfl) (ha:Nat.ble args.size n=true:=by rfl):pY P f args w K :=
  pY.of hf hb hn ha (Rd args ▸ h _)
inductive wQ (l:List (Nat×Value)):List Nat→List (Nat×Value)→Prop
  | nil:wQ l [] []
  | cons {d:Nat} {v:Value} {ds:List Nat} {m:List (Nat×Value)} (h:E5 l d=some v) (t:wQ l ds m):wQ l (d::ds) ((d,v)::m)
theorem wQ.en {e:Env} {l:List (Nat×Value)}:∀ {ds:List Nat} {m:List (Nat×Value)},wQ l ds m→En (qy e l) m
  | _,_,.nil=>trivial
  | _,_,.cons h t=>⟨A6 h,t.en⟩
section
variable {P:Program} {n:Nat} {Q Q':tr} {e:Env} {l:List (Nat×Value)} {w w0:World} {F0:List Nat} {L:List Item} {ops:Array Oper} {rest:List Oper} {ty:TypeId} {pos:String} {aft:Array Edge} {d:Nat} {v:Value}
theorem zN {E:Env} (h:E=qy e l):tm E d v=qy e ((d,v)::l):=by subst h;rfl
theorem LW.nr {E:Env} (hE:E=qy e l) (h:LW P n ops Q rest (qy e ((d,v)::l)) w):LW P n ops Q rest (tm E d v) w:=by subst hE;exact h
theorem CW.nr {E:Env} {c:Code} (hE:E=qy e l) (h:CW P n c Q (qy e ((d,v)::l)) w):CW P n c Q (tm E d v) w:=by subst hE;exact h
theorem LW.fl (ds:List Nat) {E:Env} {m:List (Nat×Value)} (k:∀ e',LW P n ops Q rest (qy e' m) w) (hE:E=qy e l:=by repeat (first | (with_reducible exact rfl) | (with_reducible apply zN))) (h:wQ l ds m:=by repeat (first | exact wQ.nil | (apply wQ.cons;rfl))):LW P n ops Q rest E w:=by subst hE;exact LW.fresh h.en k
theorem CW.fl (ds:List Nat) {E:Env} {m:List (Nat×Value)} {c:Code} (k:∀ e',CW P n c Q (qy e' m) w) (hE:E=qy e l:=by repeat (first | (with_reducible exact rfl) | (with_reducible apply zN))) (h:wQ l ds m:=by repeat (first | exact wQ.nil | (apply wQ.cons;rfl))):CW P n c Q E w:=by subst hE;exact CW.fresh h.en k
theorem LW.mv {x:Operand} (hx:sP l x=some v) (hd:Nat.ble (d+1) n=true) (h:LW P n ops Q rest (qy e ((d,v)::l)) w):LW P n ops Q (⟨some d,.move x,ty,pos,aft,none⟩::rest) (qy e l) w :=
  LW.p (by simp [pv,rC hx]) hd h
theorem LW.as {x:Operand} (hx:sP l x=some v) (hd:Nat.ble (d+1) n=true) (h:LW P n ops Q rest (qy e ((d,v)::l)) w):LW P n ops Q (⟨some d,.assign x,ty,pos,aft,none⟩::rest) (qy e l) w :=
  LW.p (by simp [pv,rC hx]) hd h
theorem LW.bin {o:BinOp} {t u:TypeId} {x y:Operand} {k k':IntKind} {a b:Int} (hx:sP l x=some (.int k a)) (hy:sP l y=some (.int k' b)) (hv:(bif Jj k k' then Qv o k a b else none)=some v) (hd:Nat.ble (d+1) n=true)
    (h:LW P n ops Q rest (qy e ((d,v)::l)) w):LW P n ops Q (⟨some d,.binOp o t x y u,ty,pos,aft,none⟩::rest) (qy e l) w :=
  LW.p (by simp only [pv,rC hx,rC hy];exact hv) hd h
theorem LW.not {t:TypeId} {x:Operand} {b:Bool} (hx:sP l x=some (.bool b)) (hd:Nat.ble (d+1) n=true) (h:LW P n ops Q rest (qy e ((d,.bool (!b))::l)) w):LW P n ops Q (⟨some d,.unOp .not t x,ty,pos,aft,none⟩::rest) (qy e l) w :=
  LW.p (by simp [pv,rC hx]) hd h
theorem LW.neg {t:TypeId} {x:Operand} {k:IntKind} {a:Int} (hx:sP l x=some (.int k a)) (hd:Nat.ble (d+1) n=true) (h:LW P n ops Q rest (qy e ((d,.int k (k.wrap (0 - a)))::l)) w):LW P n ops Q (⟨some d,.unOp .neg t x,ty,pos,aft,none⟩::rest) (qy e l) w :=
  LW.p (by simp [pv,rC hx]) hd h
theorem LW.ext {x:Operand} {i:Nat} {vs:Array Value} (hx:sP l x=some (.tuple vs)) (hv:H3 vs.toList i=some v) (hd:Nat.ble (d+1) n=true) (h:LW P n ops Q rest (qy e ((d,v)::l)) w):LW P n ops Q (⟨some d,.extract x i,ty,pos,aft,none⟩::rest) (qy e l) w :=
  LW.p (by simp only [pv,rC hx];exact hv) hd h
theorem LW.fa {t:TypeId} {x:Operand} {k off g o:Nat} {a:Option Nat} (hf:fo P t k=some (off,a)) (hx:sP l x=some (.pointer (some ⟨g,o,none⟩))) (hd:Nat.ble (d+1) n=true)
    (h:LW P n ops Q rest (qy e ((d,.pointer (some ⟨g,o+off,none⟩))::l)) w):LW P n ops Q (⟨some d,.fieldAddr t x k,ty,pos,aft,none⟩::rest) (qy e l) w:=LW.u (qp.fa hf (rC hx)) hd h
theorem LW.nc {x:Operand} {a:Addr} (hx:sP l x=some (.pointer (some a))) (hd:Nat.ble (d+1) n=true) (h:LW P n ops Q rest (qy e ((d,.pointer (some a))::l)) w):LW P n ops Q (⟨some d,.nilCheck x,ty,pos,aft,none⟩::rest) (qy e l) w:=LW.u (qp.nc (rC hx)) hd h
theorem LW.len {t el:TypeId} {x:Operand} {a:Option Addr} {m c:Nat} (ht:P.underlying t=some (.slice el)) (hx:sP l x=some (.slice a m c)) (hd:Nat.ble (d+1) n=true) (h:LW P n ops Q rest (qy e ((d,.int .i64 (m:Int))::l)) w) :
    LW P n ops Q (⟨some d,.call { callee:=.builtin .len,args:=#[x],argTypes:=#[t] },ty,pos,aft,none⟩::rest) (qy e l) w:=LW.u (qp.len ht (rC hx)) hd h
theorem LW.NV {c a b:Operand} {t:Bool} (hc:sP l c=some (.bool t)) (ht:t=true) (ha:sP l a=some v) (hd:Nat.ble (d+1) n=true) (h:LW P n ops Q rest (qy e ((d,v)::l)) w):LW P n ops Q (⟨some d,.pick c a b,ty,pos,aft,none⟩::rest) (qy e l) w:=by
  refine LW.u (qp.QM (rC hc) ht) hd ?_;rw [rC ha];exact h
theorem LW.Ph {c a b:Operand} {t:Bool} (hc:sP l c=some (.bool t)) (ht:t=false) (ha:sP l b=some v) (hd:Nat.ble (d+1) n=true) (h:LW P n ops Q rest (qy e ((d,v)::l)) w):LW P n ops Q (⟨some d,.pick c a b,ty,pos,aft,none⟩::rest) (qy e l) w:=by
  refine LW.u (qp.QR (rC hc) ht) hd ?_;rw [rC ha];exact h
theorem LW.ld {t bt:TypeId} {x:Operand} {g o:Nat} {cs:List Value} (hx:sP l x=some (.pointer (some ⟨g,o,none⟩))) (hS:St w0 F0 w L) (hm:∃ i:Nat,L[i]?=some (bx g bt cs)) (ht:rr P t=some none) (hv:Dl cs o=some v) (hd:Nat.ble (d+1) n=true)
    (h:LW P n ops Q rest (qy e ((d,v)::l)) w):LW P n ops Q (⟨some d,.load t x,ty,pos,aft,none⟩::rest) (qy e l) w:=by
  obtain ⟨i,hi⟩:=hm;exact LW.UW hS i hi ht (rC hx) hv hd h
theorem LW.NM {t bt:TypeId} {x:Operand} {g o m:Nat} {cs:List Value} (hx:sP l x=some (.pointer (some ⟨g,o,none⟩))) (hS:St w0 F0 w L) (hm:∃ i:Nat,L[i]?=some (bx g bt cs)) (ht:rr P t=some (some m)) (hl:Nat.ble (o+m) cs.length=true) (hd:Nat.ble (d+1) n=true)
    {vs:List Value} (hn:Nf (zF cs o m) vs) (h:LW P n ops Q rest (qy e ((d,.agg vs.toArray)::l)) w):LW P n ops Q (⟨some d,.load t x,ty,pos,aft,none⟩::rest) (qy e l) w:=by
  obtain ⟨i,hi⟩:=hm;cases hn.eq;exact LW.UA hS i hi ht (rC hx) hl hd h
theorem LW.yes {op:Op} {dd:Option Tmp} {j q:Nat} {b t:Bool} (hd:(ops[j]?).bind (·.dst)=some q) (hv:E5 l q=some (.bool t)) (ht:t=b) (h:LW P n ops Q (⟨dd,op,ty,pos,aft,none⟩::rest) (qy e l) w) :
    LW P n ops Q (⟨dd,op,ty,pos,aft,some (j,b)⟩::rest) (qy e l) w:=LW.gY (ug hd (A6 hv) ht) h
theorem LW.no {op:Op} {j q:Nat} {b t:Bool} (hd:(ops[j]?).bind (·.dst)=some q) (hv:E5 l q=some (.bool t)) (ht:t=!b) (hn:Nat.ble (d+1) n=true) (h:LW P n ops Q rest (qy e ((d,undef)::l)) w) :
    LW P n ops Q (⟨some d,op,ty,pos,aft,some (j,b)⟩::rest) (qy e l) w:=LW.gN (JN hd (A6 hv) ht) hn h
theorem LW.O0 {t el:TypeId} {x y:Operand} {b o m' c m:Nat} {k:IntKind} {i:Int} (ht:P.underlying t=some (.slice el)) (hm:wi P el=some m) (hx:sP l x=some (.slice (some ⟨b,o,none⟩) m' c)) (hy:sP l y=some (.int k i)) (h0:0≤i) (h1:i<m') (hd:Nat.ble (d+1) n=true)
    (h:LW P n ops Q rest (qy e ((d,.pointer (some ⟨b,o+i.toNat * m,none⟩))::l)) w):LW P n ops Q (⟨some d,.indexAddr t x y,ty,pos,aft,none⟩::rest) (qy e l) w:=LW.u (qp.ix ht hm (rC hx) (rC hy) h0 h1) hd h
theorem LW.SI {op:Op} {j q:Nat} {b:Bool} (hd:(ops[j]?).bind (·.dst)=some q) (hv:E5 l q=some undef) (hn:Nat.ble (d+1) n=true) (h:LW P n ops Q rest (qy e ((d,undef)::l)) w) :
    LW P n ops Q (⟨some d,op,ty,pos,aft,some (j,b)⟩::rest) (qy e l) w:=LW.gN (GD hd (A6 hv)) hn h
def ss (P:Program) (n:Nat) (ops:Array Oper) (Q:tr) (fuel:Nat) (E:xg) (listed:Array Bool) (i d:Nat) (op:Op) (e:Env) (w:World):Prop :=
  su ops listed i=true∧Nat.ble (d+1) n=true∧∃ v,((qp P (ev e) op v∧AW P n ops Q fuel E (listed.setIfInBounds i true) (tm e d v) w)∨∃ C,rh P (ev e) op C v∧C w∧AW P n ops Q fuel ((i,C)::E) (listed.setIfInBounds i true) (tm e d v) w)
def O3 (ops:Array Oper) (listed:Array Bool) (i:Nat):Bool :=
  !(su ops listed i) || match ops[i]? with
    | some o=>match o.op with
      | .call _=>true
      | .store _ _ _=>true
      | .box _ _=>true
      | .alloc _=>true
      | .makeSlice _ _ _=>true
      | .buildSlice _ _ _=>true
      | _=>false
    | none=>false
def Ol (ops:Array Oper) (listed:Array Bool) (b:Nat):Nat→Bool
  | 0=>true
  | k+1=>O3 ops listed (b+k)&&Ol ops listed b k
inductive Nx:Array Bool→Nat→Prop
  | start (m:Nat):Nx (Array.replicate m false) 0
  | set (a:Array Bool) (j:Nat):Nx (a.setIfInBounds j true) (j+1)
section
variable {fuel:Nat} {E:xg} {listed:Array Bool} {i b:Nat} {op:Op}
theorem ss.on {g:Option (Nat×Bool)} (hi:ops[i]?=some ⟨some d,op,ty,pos,aft,g⟩) (hw:xe ops g e=true) (h:ss P n ops Q fuel E listed i d op e w):AW P n ops Q (fuel+1) E listed e w:=by
  obtain ⟨hok,hd,v,⟨hp,h⟩ | ⟨C,hl,hC,h⟩⟩:=h
  · exact AW.u hi hok hw hd hp h
  · exact AW.take hi hok hw hd hl hC h
theorem AW.Se (h:AW P n ops Q fuel E listed e w):AW P n ops Q fuel E listed e w:=h
theorem AW.nr {E':Env} (hE:E'=qy e l) (h:AW P n ops Q fuel E listed (qy e ((d,v)::l)) w):AW P n ops Q fuel E listed (tm E' d v) w:=by subst hE;exact h
theorem AW.gN (k:Nat) (hx:Nx listed b) (hi:ops[b+k]?=some ⟨some d,op,ty,pos,aft,none⟩) (hsk:Ol ops listed b k=true) (h:ss P n ops Q fuel E listed (b+k) d op (qy e l) w):AW P n ops Q (fuel+1) E listed (qy e l) w:=h.on hi rfl
theorem AW.gY (k:Nat) {j q:Nat} {t t':Bool} (hx:Nx listed b) (hi:ops[b+k]?=some ⟨some d,op,ty,pos,aft,some (j,t')⟩) (hsk:Ol ops listed b k=true) (hq:(ops[j]?).bind (·.dst)=some q) (hv:E5 l q=some (.bool t)) (ht:t=t') (h:ss P n ops Q fuel E listed (b+k) d op (qy e l) w):AW P n ops Q (fuel+1) E listed (qy e l) w:=h.on hi (ug hq (A6 hv) ht)
theorem AW.g0 (k:Nat) {j q:Nat} {t t':Bool} (hx:Nx listed b) (hi:ops[b+k]?=some ⟨some d,op,ty,pos,aft,some (j,t')⟩) (hsk:Ol ops listed b k=true) (hq:(ops[j]?).bind (·.dst)=some q) (hv:E5 l q=some (.bool t)) (ht:t=!t') (hok:su ops listed (b+k)=true) (hd:Nat.ble (d+1) n=true)
    (h:AW P n ops Q fuel E (listed.setIfInBounds (b+k) true) (qy e ((d,undef)::l)) w):AW P n ops Q (fuel+1) E listed (qy e l) w:=AW.no hi hok (JN hq (A6 hv) ht) hd h
theorem AW.gU (k:Nat) {j q:Nat} {t':Bool} (hx:Nx listed b) (hi:ops[b+k]?=some ⟨some d,op,ty,pos,aft,some (j,t')⟩) (hsk:Ol ops listed b k=true) (hq:(ops[j]?).bind (·.dst)=some q) (hv:E5 l q=some undef) (hok:su ops listed (b+k)=true) (hd:Nat.ble (d+1) n=true)
    (h:AW P n ops Q fuel E (listed.setIfInBounds (b+k) true) (qy e ((d,undef)::l)) w):AW P n ops Q (fuel+1) E listed (qy e l) w:=AW.no hi hok (GD hq (A6 hv)) hd h
theorem ss.u (hp:qp P (ev (qy e l)) op v) (hd:Nat.ble (d+1) n=true) (hok:su ops listed i=true) (h:AW P n ops Q fuel E (listed.setIfInBounds i true) (qy e ((d,v)::l)) w):ss P n ops Q fuel E listed i d op (qy e l) w:=⟨hok,hd,v,.inl ⟨hp,h⟩⟩
theorem ss.mv {x:Operand} (hx:sP l x=some v) (hd:Nat.ble (d+1) n=true) (hok:su ops listed i=true) (h:AW P n ops Q fuel E (listed.setIfInBounds i true) (qy e ((d,v)::l)) w):ss P n ops Q fuel E listed i d (.move x) (qy e l) w:=.u (.p (by simp [pv,rC hx])) hd hok h
theorem ss.as {x:Operand} (hx:sP l x=some v) (hd:Nat.ble (d+1) n=true) (hok:su ops listed i=true) (h:AW P n ops Q fuel E (listed.setIfInBounds i true) (qy e ((d,v)::l)) w):ss P n ops Q fuel E listed i d (.assign x) (qy e l) w:=.u (.p (by simp [pv,rC hx])) hd hok h
theorem ss.bin {o:BinOp} {t u:TypeId} {x y:Operand} {k k':IntKind} {a b:Int} (hx:sP l x=some (.int k a)) (hy:sP l y=some (.int k' b)) (hv:(bif Jj k k' then Qv o k a b else none)=some v) (hd:Nat.ble (d+1) n=true) (hok:su ops listed i=true)
    (h:AW P n ops Q fuel E (listed.setIfInBounds i true) (qy e ((d,v)::l)) w):ss P n ops Q fuel E listed i d (.binOp o t x y u) (qy e l) w:=.u (.p (by simp only [pv,rC hx,rC hy];exact hv)) hd hok h
theorem ss.not {t:TypeId} {x:Operand} {b:Bool} (hx:sP l x=some (.bool b)) (hd:Nat.ble (d+1) n=true) (hok:su ops listed i=true) (h:AW P n ops Q fuel E (listed.setIfInBounds i true) (qy e ((d,.bool (!b))::l)) w):ss P n ops Q fuel E listed i d (.unOp .not t x) (qy e l) w:=.u (.p (by simp [pv,rC hx])) hd hok h
theorem ss.neg {t:TypeId} {x:Operand} {k:IntKind} {a:Int} (hx:sP l x=some (.int k a)) (hd:Nat.ble (d+1) n=true) (hok:su ops listed i=true) (h:AW P n ops Q fuel E (listed.setIfInBounds i true) (qy e ((d,.int k (k.wrap (0 - a)))::l)) w):ss P n ops Q fuel E listed i d (.unOp .neg t x) (qy e l) w:=.u (.p (by simp [pv,rC hx])) hd hok h
theorem ss.ext {x:Operand} {j:Nat} {vs:Array Value} (hx:sP l x=some (.tuple vs)) (hv:H3 vs.toList j=some v) (hd:Nat.ble (d+1) n=true) (hok:su ops listed i=true) (h:AW P n ops Q fuel E (listed.setIfInBounds i true) (qy e ((d,v)::l)) w):ss P n ops Q fuel E listed i d (.extract x j) (qy e l) w:=.u (.p (by simp only [pv,rC hx];exact hv)) hd hok h
theorem ss.fa {t:TypeId} {x:Operand} {k off g o:Nat} {a:Option Nat} (hf:fo P t k=some (off,a)) (hx:sP l x=some (.pointer (some ⟨g,o,none⟩))) (hd:Nat.ble (d+1) n=true) (hok:su ops listed i=true)
    (h:AW P n ops Q fuel E (listed.setIfInBounds i true) (qy e ((d,.pointer (some ⟨g,o+off,none⟩))::l)) w):ss P n ops Q fuel E listed i d (.fieldAddr t x k) (qy e l) w:=.u (.fa hf (rC hx)) hd hok h
theorem ss.nc {x:Operand} {a:Addr} (hx:sP l x=some (.pointer (some a))) (hd:Nat.ble (d+1) n=true) (hok:su ops listed i=true) (h:AW P n ops Q fuel E (listed.setIfInBounds i true) (qy e ((d,.pointer (some a))::l)) w):ss P n ops Q fuel E listed i d (.nilCheck x) (qy e l) w:=.u (.nc (rC hx)) hd hok h
theorem ss.len {t el:TypeId} {x:Operand} {a:Option Addr} {m c:Nat} (ht:P.underlying t=some (.slice el)) (hx:sP l x=some (.slice a m c)) (hd:Nat.ble (d+1) n=true) (hok:su ops listed i=true) (h:AW P n ops Q fuel E (listed.setIfInBounds i true) (qy e ((d,.int .i64 (m:Int))::l)) w) :
    ss P n ops Q fuel E listed i d (.call { callee:=.builtin .len,args:=#[x],argTypes:=#[t] }) (qy e l) w:=.u (.len ht (rC hx)) hd hok h
theorem ss.NV {c a b:Operand} {t:Bool} (hc:sP l c=some (.bool t)) (ht:t=true) (ha:sP l a=some v) (hd:Nat.ble (d+1) n=true) (hok:su ops listed i=true) (h:AW P n ops Q fuel E (listed.setIfInBounds i true) (qy e ((d,v)::l)) w):ss P n ops Q fuel E listed i d (.pick c a b) (qy e l) w :=
  .u (rC ha ▸ qp.QM (rC hc) ht) hd hok h
theorem ss.Ph {c a b:Operand} {t:Bool} (hc:sP l c=some (.bool t)) (ht:t=false) (ha:sP l b=some v) (hd:Nat.ble (d+1) n=true) (hok:su ops listed i=true) (h:AW P n ops Q fuel E (listed.setIfInBounds i true) (qy e ((d,v)::l)) w):ss P n ops Q fuel E listed i d (.pick c a b) (qy e l) w :=
  .u (rC ha ▸ qp.QR (rC hc) ht) hd hok h
theorem ss.O0 {t el:TypeId} {x y:Operand} {b' o m' c m:Nat} {k:IntKind} {j:Int} (ht:P.underlying t=some (.slice el)) (hm:wi P el=some m) (hx:sP l x=some (.slice (some ⟨b',o,none⟩) m' c)) (hy:sP l y=some (.int k j)) (h0:0≤j) (h1:j<m') (hd:Nat.ble (d+1) n=true) (hok:su ops listed i=true)
    (h:AW P n ops Q fuel E (listed.setIfInBounds i true) (qy e ((d,.pointer (some ⟨b',o+j.toNat * m,none⟩))::l)) w):ss P n ops Q fuel E listed i d (.indexAddr t x y) (qy e l) w:=ss.u (qp.ix ht hm (rC hx) (rC hy) h0 h1) hd hok h
theorem ss.ld {t bt:TypeId} {x:Operand} {g o:Nat} {cs:List Value} (hx:sP l x=some (.pointer (some ⟨g,o,none⟩))) (hS:St w0 F0 w L) (hm:∃ i:Nat,L[i]?=some (bx g bt cs)) (ht:rr P t=some none) (hv:Dl cs o=some v) (hd:Nat.ble (d+1) n=true) (hok:su ops listed i=true)
    (h:AW P n ops Q fuel ((i,fun w=>w.heap[g]?=some (.cells cs.toArray bt (0,0)))::E) (listed.setIfInBounds i true) (qy e ((d,v)::l)) w):ss P n ops Q fuel E listed i d (.load t x) (qy e l) w:=by
  obtain ⟨j,hj⟩:=hm;exact ⟨hok,hd,v,.inr ⟨_,rh.box (bt:=bt) (fr:=(0,0)) ht (rC hx) hv,St.cell (h:=hS) (i:=j) hj,h⟩⟩
theorem ss.NM {t bt:TypeId} {x:Operand} {g o m:Nat} {cs:List Value} (hx:sP l x=some (.pointer (some ⟨g,o,none⟩))) (hS:St w0 F0 w L) (hm:∃ i:Nat,L[i]?=some (bx g bt cs)) (ht:rr P t=some (some m)) (hl:Nat.ble (o+m) cs.length=true) (hd:Nat.ble (d+1) n=true) {vs:List Value} (hn:Nf (zF cs o m) vs) (hok:su ops listed i=true)
    (h:AW P n ops Q fuel ((i,fun w=>w.heap[g]?=some (.cells cs.toArray bt (0,0)))::E) (listed.setIfInBounds i true) (qy e ((d,.agg vs.toArray)::l)) w):ss P n ops Q fuel E listed i d (.load t x) (qy e l) w:=by
  obtain ⟨j,hj⟩:=hm;cases hn.eq;exact ⟨hok,hd,_,.inr ⟨_,rh.P5 (bt:=bt) (fr:=(0,0)) ht (rC hx) hl,St.cell (h:=hS) (i:=j) hj,h⟩⟩
end
theorem LW.Uk {r:List Oper} {o:Oper} (h:LW P n ops Q (o::r) e w):LW P n ops Q (o::r) e w:=h
theorem LW.ex {r:List Oper} {o:Oper} (hr:rest=o::r) (h:LW P n ops Q (o::r) e w):LW P n ops Q rest e w:=by subst hr;exact h
theorem QN {id:Nat} (h:Q .normal e w):JW id Q (.exit id) e w:=by
  show (bif Nat.beq id id then Q .normal e w else Q (.exit id) e w)
  rw [Nat.beq_refl];exact h
theorem QO {id id':Nat} (hn:Nat.beq id' id=false) (h:Q (.exit id') e w):JW id Q (.exit id') e w:=by
  show (bif Nat.beq id' id then Q .normal e w else Q (.exit id') e w)
  rw [hn];exact h
theorem QI {id:Nat} (h:Q .normal e w):JW id Q .normal e w:=h
theorem QD {id:Nat} (h:Q .ret e w):JW id Q .ret e w:=h
theorem QF {M:Env→World→Prop} (h:M e w):Fq M Q .normal e w:=h
theorem QA {M:Env→World→Prop} (h:Q .ret e w):Fq M Q .ret e w:=h
theorem QB {id:Nat} {M:Env→World→Prop} (h:Q (.exit id) e w):Fq M Q (.exit id) e w:=h
theorem LW.st {E:Env} {t bt:TypeId} {x y:Operand} {a:Option Nat} {g o:Nat} {cs vs cs':List Value} {L':List Item} (hS:St w0 F0 w L) (i:Nat) (h:∀ w':World,St w0 F0 w' L'→LW P n ops Q rest (qy e l) w')
    (hE:E=qy e l:=by repeat (first | (with_reducible exact rfl) | (with_reducible apply zN))) (hx:sP l x=some (.pointer (some ⟨g,o,none⟩)):=by rfl) (hi:L[i]?=some (bx g bt cs):=by rfl) (ht:rr P t=some a:=by exact sr.h) (hy:sP l y=some v:=by rfl)
    (hv:Nf v.cells.toList vs:=by repeat (first | ((with_reducible apply Nf.cons);rfl) | ((with_reducible apply Nf.nil);rfl))) (hm:vs.length=a.getD 1:=by rfl) (hl:Nat.ble (o+vs.length) cs.length=true:=by rfl) (h1:vs.all (·.oneCell')=true:=by rfl) (hc:Nf (Ez cs o vs) cs':=by repeat (first | ((with_reducible apply Nf.cons);rfl) | ((with_reducible apply Nf.nil);rfl))) (hL:Nf (L.set i (bx g bt cs')) L':=by repeat (first | ((with_reducible apply Nf.cons);rfl) | ((with_reducible apply Nf.nil);rfl))) :
    LW P n ops Q (⟨none,.store t x y,ty,pos,aft,none⟩::rest) E w:=by
  subst hE;cases hv.eq;cases hc.eq;cases hL.eq;exact LW.Ub hS i hi ht (rC hx) (by rw [rC hy]) hm hl h1 fun w' hS' _=>h w' hS'
theorem LW.bo {E:Env} {t:TypeId} {x:Operand} {cs:List Value} (hS:St w0 F0 w L) (h:∀ (g:Nat) (w':World),St w0 F0 w' (bx g t cs::L)→LW P n ops Q rest (qy e ((d,.pointer (some ⟨g,0,none⟩))::l)) w')
    (hE:E=qy e l:=by repeat (first | (with_reducible exact rfl) | (with_reducible apply zN))) (hx:sP l x=some v:=by rfl) (hv:Nf v.cells.toList cs:=by repeat (first | ((with_reducible apply Nf.cons);rfl) | ((with_reducible apply Nf.nil);rfl))) (hd:Nat.ble (d+1) n=true:=by rfl):LW P n ops Q (⟨some d,.box t x,ty,pos,aft,none⟩::rest) E w:=by
  subst hE;cases hv.eq;exact LW.box (by rw [rC hx]) hS hd fun g w' hS' _=>h g w' hS'
theorem LW.al {E:Env} {t:TypeId} {cs:List Value} [z:Ca P t] (hS:St w0 F0 w L) (h:∀ (g:Nat) (w':World),St w0 F0 w' (bx g t cs::L)→LW P n ops Q rest (qy e ((d,.pointer (some ⟨g,0,none⟩))::l)) w')
    (hE:E=qy e l:=by repeat (first | (with_reducible exact rfl) | (with_reducible apply zN))) (hv:Nf z.z.cells.toList cs:=by repeat (first | ((with_reducible apply Nf.cons);rfl) | ((with_reducible apply Nf.nil);rfl))) (hd:Nat.ble (d+1) n=true:=by rfl):LW P n ops Q (⟨some d,.alloc t,ty,pos,aft,none⟩::rest) E w:=by
  subst hE;cases hv.eq;exact LW.alloc z.h hS hd fun g w' hS' _=>h g w' hS'
theorem LW.se {α:Type} [qe α] {E:Env} {t:TypeId} {x y:Operand} {av:Option Nat} {g o0 off c:Nat} {l q:List α} {k:Int} {z z':α} {vs:Array Value} (o:Nat) (hS:St w0 F0 w L) (i:Nat) (hk:idx l k=some z) (hq:some (l.set k.toNat z')=some q)
    (h:∀ w':World,St w0 F0 w' (L.set i (sl (some ⟨g,o0,none⟩) c q))→LW P n ops Q rest E w')
    (hi:L[i]?=some (sl (some ⟨g,o0,none⟩) c l):=by rfl) (hx:ev E x=.pointer (some ⟨g,off,none⟩):=by rfl) (hy:(ev E y).cells=vs:=by rfl) (hoff:off=o0+k.toNat * qe.sz α+o:=by rfl) (ht:rr P t=some av:=by exact sr.h)
    (hm:vs.size=av.getD 1:=by rfl) (h1:vs.toList.all (·.oneCell')=true:=by rfl) (hold:Nat.ble (o+vs.size) (qe.sz α)=true:=by rfl)
    (hM:∀ (w:World) (cs:List Value) (F G:List Nat),qe.own w cs F z→qX [] w G→∃ F',qe.own w (cs.take o++vs.toList++cs.drop (o+vs.toList.length)) F' z'∧(∀ b,b ∈ F'→b ∈ F∨b ∈ G)∧(F.Nodup→G.Nodup→(∀ b,b ∈ F→b ∉ G)→F'.Nodup)):LW P n ops Q (⟨none,.store t x y,ty,pos,aft,none⟩::rest) E w :=
  LW.B9 (M:=[]) (L:=L) hS hi hk ht hx hoff hy hm h1 hold hM fun w' hS' _=>h w' (by rwa [Option.some.inj hq] at hS')
theorem A1 {α:Type} [qe α] {z z':α} {vs:Array Value} (hv:∀ w:World,qe.own w vs.toList [] z':=by exact fun _=>⟨rfl,rfl⟩):∀ (w:World) (cs:List Value) (F G:List Nat),qe.own w cs F z→qX [] w G→∃ F',qe.own w (cs.take 0++vs.toList++cs.drop (0+vs.toList.length)) F' z'∧(∀ b,b ∈ F'→b ∈ F∨b ∈ G)∧(F.Nodup→G.Nodup→(∀ b,b ∈ F→b ∉ G)→F'.Nodup) :=
  whole (fun w G hG=>by cases (show G=[] from hG);exact hv w)
theorem wh {a:Item} {l:List Item}:∃ i:Nat,(a::l)[i]?=some a:=⟨0,rfl⟩
theorem wj {a b:Item} {l:List Item} (h:∃ i:Nat,l[i]?=some a):∃ i:Nat,(b::l)[i]?=some a:=h.elim fun i hi=>⟨i+1,hi⟩
theorem CW.jn (ds is:List Nat) (xs:List (Nat×Value)) {E:Env} {m mm:List (Nat×Value)} {L':List Item} {c:Code} (hS:St w0 F0 w L)
    (hE:E=qy e l:=by repeat (first | (with_reducible exact rfl) | (with_reducible apply zN))) (hm:wQ l ds m:=by repeat (first | exact wQ.nil | (apply wQ.cons;rfl))) (hmm:Nf (m++xs) mm:=by repeat (first | ((with_reducible apply Nf.cons);rfl) | ((with_reducible apply Nf.nil);rfl))) (hL:Nf ((uy L is).getD []) L':=by repeat (first | ((with_reducible apply Nf.cons);rfl) | ((with_reducible apply Nf.nil);rfl)))
    (h1:CW P n c (Fq (fun e' wb=>En e' mm∧St w0 F0 wb L') Q) E w) (h2:∀ e' wb,St w0 F0 wb L'→Q .normal (qy e' mm) wb):CW P n c Q E w :=
  CW.cut _ h1 fun e' wb ⟨hE',hS'⟩=>by obtain ⟨e2,rfl⟩:=hE'.out;exact h2 e2 wb hS'
section
variable {σ β:Type} {c:Code} {E:Env} {m:List (Nat×Value)} {g gb:σ→List (Nat×Value)} {L':List Item} {N:Nat} {init:σ}
abbrev RT (P:Program) (fr:Array ResultVar) (V:β→Value) (w0:World) (F0:List Nat) (r:β) (x:Exit) (e:Env) (w:World):Prop:=x=.ret∧∃ u,u=r∧∃ v,tu P fr e w v∧v=V u∧St w0 F0 w []
theorem CW.lb (ds is bs:List Nat) (kx:Nat) (f:σ→List (Nat×Value)) {body:σ→Option (σ⊕σ)} {o:σ} (hS:St w0 F0 w L) (ho:Kx.iter body N init=some o)
    (hE:E=qy e l:=by repeat (first | (with_reducible exact rfl) | (with_reducible apply zN))) (hm:wQ l ds m:=by repeat (first | exact wQ.nil | (apply wQ.cons;rfl))) (hg:∀ s,Nf (m++f s) (g s):=by intro s;repeat (first | ((with_reducible apply Nf.cons);rfl) | ((with_reducible apply Nf.nil);rfl))) (hgb:∀ s,wQ (g s) bs (gb s):=by intro s;repeat (first | exact wQ.nil | (apply wQ.cons;rfl))) (hL:Nf ((uy L is).getD []) L':=by repeat (first | ((with_reducible apply Nf.cons);rfl) | ((with_reducible apply Nf.nil);rfl)))
    (h0:En (qy e l) (g init):=by repeat (first | exact trivial | (refine ⟨rfl,?_⟩))) (hp:uy L is=some L':=by rfl) (hn:xW is=true:=by rfl)
    (hb:∀ (s:σ) (e':Env) (wb:World) (o':σ⊕σ),St w0 F0 wb L'→body s=some o'→CW P n c (fun x e w'=>match o' with
      | .inl s'=>x=.normal∧En e (g s')∧St w0 F0 w' L'
      | .inr r=>(match x with | .normal=>False | _=>True)∧x=.exit kx∧En e (gb r)∧St w0 F0 w' L') (qy e' (g s)) wb) :
    CW P n (.loop c) (fun x e wb=>x=.exit kx∧En e (gb o)∧St w0 F0 wb L') E w:=by
  subst hE
  exact CW.iter (fun s e wb=>En e (g s)∧St w0 F0 wb L') (fun r x e wb=>x=.exit kx∧En e (gb r)∧St w0 F0 wb L')
    (fun s e' wb o' ⟨hE',hS'⟩ hbd=>by obtain ⟨e2,rfl⟩:=hE'.out;exact (hb s e2 wb o' hS' hbd).mono fun x e w hq=>by rcases o' with _ | _<;>exact hq) N init _ w o ⟨h0,hS.pick is hp hn⟩ ho
theorem CW.lx (ds is bs:List Nat) (kx:Nat) (f:σ→List (Nat×Value)) (T:β→Exit→Env→World→Prop) {body:σ→Option (σ⊕(σ⊕β))} {o:σ⊕β} (hS:St w0 F0 w L) (ho:Kx.iter body N init=some o)
    (hE:E=qy e l:=by repeat (first | (with_reducible exact rfl) | (with_reducible apply zN))) (hm:wQ l ds m:=by repeat (first | exact wQ.nil | (apply wQ.cons;rfl))) (hg:∀ s,Nf (m++f s) (g s):=by intro s;repeat (first | ((with_reducible apply Nf.cons);rfl) | ((with_reducible apply Nf.nil);rfl))) (hgb:∀ s,wQ (g s) bs (gb s):=by intro s;repeat (first | exact wQ.nil | (apply wQ.cons;rfl))) (hL:Nf ((uy L is).getD []) L':=by repeat (first | ((with_reducible apply Nf.cons);rfl) | ((with_reducible apply Nf.nil);rfl)))
    (h0:En (qy e l) (g init):=by repeat (first | exact trivial | (refine ⟨rfl,?_⟩))) (hp:uy L is=some L':=by rfl) (hn:xW is=true:=by rfl)
    (hb:∀ (s:σ) (e':Env) (wb:World) (o':σ⊕(σ⊕β)),St w0 F0 wb L'→body s=some o'→CW P n c (fun x e w'=>match o' with
      | .inl s'=>x=.normal∧En e (g s')∧St w0 F0 w' L'
      | .inr r=>(match x with | .normal=>False | _=>True)∧match r with | .inl b=>x=.exit kx∧En e (gb b)∧St w0 F0 w' L' | .inr r=>T r x e w') (qy e' (g s)) wb) :
    CW P n (.loop c) (fun x e wb=>match o with | .inl b=>x=.exit kx∧En e (gb b)∧St w0 F0 wb L' | .inr r=>T r x e wb) E w:=by
  subst hE
  exact (CW.iter (fun s e wb=>En e (g s)∧St w0 F0 wb L') (fun r x e wb=>match r with | .inl b=>x=.exit kx∧En e (gb b)∧St w0 F0 wb L' | .inr r=>T r x e wb)
    (fun s e' wb o' ⟨hE',hS'⟩ hbd=>by obtain ⟨e2,rfl⟩:=hE'.out;exact (hb s e2 wb o' hS' hbd).mono fun x e w hq=>by rcases o' with _ | (_ | _)<;>exact hq) N init _ w o ⟨h0,hS.pick is hp hn⟩ ho).mono fun x e w hq=>by rcases o with _ | _<;>exact hq
end
theorem CW.it {σ ρ:Type} {c:Code} {body:σ→Option (σ⊕ρ)} {N:Nat} {s0:σ} {r:ρ} {Q':tr} (ho:Kx.iter body N s0=some r) (R:σ→Env→World→Prop) (Q:ρ→tr)
    (hb:∀ (s:σ) (e:Env) (w:World) (o:σ⊕ρ),R s e w→body s=some o→CW P n c (fun x e' w'=>match o with
      | .inl s'=>x=.normal∧R s' e' w'
      | .inr r=>(match x with | .normal=>False | _=>True)∧Q r x e' w') e w) (hR:R s0 e w) (k:∀ x e w,Q r x e w→Q' x e w):CW P n (.loop c) Q' e w :=
  CW.mono (CW.iter R Q hb N s0 e w r hR ho) k
theorem CW.ie {σ:Type} {c:Code} {body:σ→Option (σ⊕σ)} {N:Nat} {s0 r:σ} {Q':tr} (ho:Kx.iter body N s0=some r) (kx:Nat) (R:σ→Env→World→Prop)
    (hb:∀ (s:σ) (e:Env) (w:World) (o:σ⊕σ),R s e w→body s=some o→CW P n c (fun x e' w'=>match o with
      | .inl s'=>x=.normal∧R s' e' w'
      | .inr r=>(match x with | .normal=>False | _=>True)∧x=.exit kx∧R r e' w') e w) (hR:R s0 e w) (k:∀ e w,R r e w→Q' (.exit kx) e w):CW P n (.loop c) Q' e w :=
  CW.mono (CW.iter R (fun r x e w=>x=.exit kx∧R r e w) (fun s e w o h1 h2=>CW.mono (hb s e w o h1 h2) fun x e w h=>by cases o<;>exact h) N s0 e w r hR ho) (fun x e w h=>by obtain ⟨rfl,h⟩:=h;exact k e w h)
def CR (P:Program) (n:Nat) (c:Code) (Q:tr) (N:Nat) (e:Env) (w:World):Prop:=∀ a,Is a n e→Code.rounds P c (lift n Q) N a w
theorem CR.mono {c:Code} {N:Nat} {Q Q':tr} (h:CR P n c Q N e w) (hq:∀ x e w,Q x e w→Q' x e w):CR P n c Q' N e w:=by
  have key:∀ (N:Nat) (a:Act) (w:World),Code.rounds P c (lift n Q) N a w→Code.rounds P c (lift n Q') N a w:=by
    intro N
    induction N with
    | zero=>intro a w h;exact h
    | succ N ih =>
      intro a w h;rw [rounds_succ] at h ⊢;refine Code.wp_mono ?_ h;intro x a' w' h
      cases x with
      | normal=>exact ih a' w' h
      | _=>obtain ⟨hc,e',he',hq'⟩:=h;exact ⟨hc,e',he',hq _ _ _ hq'⟩
  exact fun a ha=>key N a w (h a ha)
theorem CR.iter {σ ρ:Type} {c:Code} {body:σ→Option (σ⊕ρ)} (R:σ→Env→World→Prop) (Q:ρ→tr)
    (hb:∀ (s:σ) (e:Env) (w:World) (o:σ⊕ρ),R s e w→body s=some o→CW P n c (fun x e' w'=>match o with
      | .inl s'=>x=.normal∧R s' e' w'
      | .inr r=>(match x with | .normal=>False | _=>True)∧Q r x e' w') e w)
    (N:Nat) (s:σ) (e:Env) (w:World) (r:ρ) (hR:R s e w) (h:Kx.iter body N s=some r):CR P n c (Q r) N e w:=by
  have key:∀ (N:Nat) (s:σ) (e:Env) (w:World),R s e w→Kx.iter body N s=some r→∀ a,Is a n e→Code.rounds P c (lift n (Q r)) N a w:=by
    intro N
    induction N with
    | zero=>intro s e w _ h;cases h
    | succ N ih =>
      intro s e w hR h a ha;obtain ⟨o,ho,h2⟩:=vl h;rw [rounds_succ];refine Code.wp_mono ?_ (hb s e w o hR ho a ha);rintro x a' w' ⟨hc,e',he',hq⟩
      cases o with
      | inl s' =>
        obtain ⟨rfl,hR'⟩:=hq;exact ih s' e' w' hR' h2 a' he'
      | inr r' =>
        cases h2
        cases x with
        | normal=>exact hq.1.elim
        | _=>exact ⟨hc,e',he',hq.2⟩
  exact fun a ha=>key N s e w hR h a ha
theorem fj {R:Value→Prop} {u:Value} (hS:St w0 F0 w L) (hR:R u:=by exact tu.one (qt.t rfl)):∃ v,R v∧v=u∧St w0 F0 w []:=⟨u,hR,rfl,hS.pick [] rfl rfl⟩
theorem fi {A:Prop} {R:Value→Prop} {u:Value} (hS:St w0 F0 w L) (hA:A:=by exact trivial) (hR:R u:=by exact tu.one (qt.t rfl)):A∧∃ v,R v∧v=u∧St w0 F0 w []:=⟨hA,fj hS hR⟩
theorem St.uj (hS:St w0 F0 w L) (is js:List Nat) {L1 L2:List Item} (h1:Nf ((uy L is).getD []) L1:=by repeat (first | ((with_reducible apply Nf.cons);rfl) | ((with_reducible apply Nf.nil);rfl))) (h2:Nf ((uy L js).getD []) L2:=by repeat (first | ((with_reducible apply Nf.cons);rfl) | ((with_reducible apply Nf.nil);rfl))) (hp:uy L (is++js)=some (L1++L2):=by rfl) (hn:xW (is++js)=true:=by rfl):∃ F,wm w0 F0 w L1 L2 F:=(hS.pick (is++js) hp hn).SO
theorem oi {α:Type} {a b:α} (h:some a=some b):a=b:=Option.some.inj h
theorem LW.cl {f:FuncId} {as:Array Operand} {ts:Array TypeId} {al:List Value} {K:Value→World→Prop} (q:pY P f al.toArray w K) (h:∀ v w',K v w'→LW P n ops Q rest (tm e d v) w')
    (hp:Bq P f=true:=by kernel_rfl) (hd:Nat.ble (d+1) n=true:=by rfl) (hargs:as.toList.map (ev e)=al:=by rfl) :
    LW P n ops Q (⟨some d,.call { callee:=.value (.func f),args:=as,argTypes:=ts },ty,pos,aft,none⟩::rest) e w:=LW.call hp hd hargs (pY.mono q h)
theorem LW.c0 {f:FuncId} {as:Array Operand} {ts:Array TypeId} {al:List Value} {u:Value} (q:pY P f al.toArray w fun v w'=>v=u∧St w [] w' []) (hS:St w0 F0 w L) (h:∀ w',St w0 F0 w' L→LW P n ops Q rest (tm e d u) w')
    (hp:Bq P f=true:=by kernel_rfl) (hd:Nat.ble (d+1) n=true:=by rfl) (hargs:as.toList.map (ev e)=al:=by rfl) :
    LW P n ops Q (⟨some d,.call { callee:=.value (.func f),args:=as,argTypes:=ts },ty,pos,aft,none⟩::rest) e w :=
  LW.cl q (fun v w' ⟨h1,h2⟩=>by subst h1;exact h w' (by simpa using hS.add h2)) hp hd hargs
theorem gI {A B:Prop} (a:A) (f:(Unit→A)→B:=by
    intro a
    (first
      | ((with_reducible apply ss.mv);rfl;rfl;(decide +kernel))
      | ((with_reducible apply ss.fa);(exact rj.h);rfl;rfl;(decide +kernel))
      | ((with_reducible apply ss.ld);rfl;assumption;(repeat (first | exact wh | apply wj));(exact sr.h);rfl;rfl;(decide +kernel))
      | ((with_reducible apply ss.bin);rfl;rfl;rfl;rfl;(decide +kernel))
      | ((with_reducible apply ss.NV);rfl;(first | assumption | rfl);rfl;rfl;(decide +kernel))
      | ((with_reducible apply ss.Ph);rfl;(first | assumption | rfl);rfl;rfl;(decide +kernel))
      | ((with_reducible apply ss.as);rfl;rfl;(decide +kernel))
      | ((with_reducible apply ss.NM);rfl;assumption;(repeat (first | exact wh | apply wj));(exact sr.h);rfl;rfl;(repeat (first | ((with_reducible apply Nf.cons);rfl) | ((with_reducible apply Nf.nil);rfl)));(decide +kernel))
      | ((with_reducible apply ss.len);(exact wN.h);rfl;rfl;(decide +kernel))
      | ((with_reducible apply ss.O0);(exact wN.h);(exact Bg.h);rfl;rfl;assumption;assumption;rfl;(decide +kernel))
      | ((with_reducible apply ss.ext);rfl;rfl;rfl;(decide +kernel))
      | ((with_reducible apply ss.not);rfl;rfl;(decide +kernel))
      | ((with_reducible apply ss.neg);rfl;rfl;(decide +kernel))
      | ((with_reducible apply ss.nc);rfl;rfl;(decide +kernel)))
    exact a ()):B:=f fun _=>a
theorem gA {A B:Prop} (a:A) (f:(Unit→A)→B:=by
    intro a
    with_reducible apply AW.Se
    (first
      | ((apply AW.gN 0);(first | exact Nx.set _ _ | exact Nx.start _);rfl;rfl;refine gI ?_)
      | ((apply AW.gY 0);(first | exact Nx.set _ _ | exact Nx.start _);rfl;rfl;rfl;rfl;(first | assumption | rfl);refine gI ?_)
      | ((apply AW.g0 0);(first | exact Nx.set _ _ | exact Nx.start _);rfl;rfl;rfl;rfl;(first | assumption | rfl);(decide +kernel);rfl)
      | ((apply AW.gU 0);(first | exact Nx.set _ _ | exact Nx.start _);rfl;rfl;rfl;rfl;(decide +kernel);rfl)
      | ((apply AW.gN 1);(first | exact Nx.set _ _ | exact Nx.start _);rfl;(decide +kernel);refine gI ?_)
      | ((apply AW.gY 1);(first | exact Nx.set _ _ | exact Nx.start _);rfl;(decide +kernel);rfl;rfl;(first | assumption | rfl);refine gI ?_)
      | ((apply AW.g0 1);(first | exact Nx.set _ _ | exact Nx.start _);rfl;(decide +kernel);rfl;rfl;(first | assumption | rfl);(decide +kernel);rfl)
      | ((apply AW.gU 1);(first | exact Nx.set _ _ | exact Nx.start _);rfl;(decide +kernel);rfl;rfl;(decide +kernel);rfl)
      | ((apply AW.gN 2);(first | exact Nx.set _ _ | exact Nx.start _);rfl;(decide +kernel);refine gI ?_)
      | ((apply AW.gY 2);(first | exact Nx.set _ _ | exact Nx.start _);rfl;(decide +kernel);rfl;rfl;(first | assumption | rfl);refine gI ?_)
      | ((apply AW.g0 2);(first | exact Nx.set _ _ | exact Nx.start _);rfl;(decide +kernel);rfl;rfl;(first | assumption | rfl);(decide +kernel);rfl)
      | ((apply AW.gU 2);(first | exact Nx.set _ _ | exact Nx.start _);rfl;(decide +kernel);rfl;rfl;(decide +kernel);rfl)
      | ((apply AW.done);(decide +kernel)))
    exact a ()):B:=f fun _=>a
theorem go {A B:Prop} (a:A) (f:(Unit→A)→B:=by
    intro a
    repeat (first
      | ((with_reducible apply LW.nr);(repeat first | (with_reducible exact rfl) | (with_reducible apply zN)))
      | ((with_reducible apply LW.yes);rfl;rfl;(first | assumption | rfl))
      | ((with_reducible apply LW.no);rfl;rfl;(first | assumption | rfl);rfl)
      | ((with_reducible apply LW.mv);rfl;rfl)
      | ((with_reducible apply LW.fa);(exact rj.h);rfl;rfl)
      | ((with_reducible apply LW.ld);rfl;assumption;(repeat (first | exact wh | apply wj));(exact sr.h);rfl;rfl)
      | ((with_reducible apply LW.bin);rfl;rfl;rfl;rfl)
      | ((with_reducible apply LW.NV);rfl;(first | assumption | rfl);rfl;rfl)
      | ((with_reducible apply LW.Ph);rfl;(first | assumption | rfl);rfl;rfl)
      | ((with_reducible apply LW.as);rfl;rfl)
      | ((with_reducible apply LW.NM);rfl;assumption;(repeat (first | exact wh | apply wj));(exact sr.h);rfl;rfl;(repeat (first | ((with_reducible apply Nf.cons);rfl) | ((with_reducible apply Nf.nil);rfl))))
      | ((with_reducible apply LW.len);(exact wN.h);rfl;rfl)
      | ((with_reducible apply LW.O0);(exact wN.h);(exact Bg.h);rfl;rfl;assumption;assumption;rfl)
      | ((with_reducible apply LW.SI);rfl;rfl;rfl)
      | ((with_reducible apply LW.ext);rfl;rfl;rfl)
      | ((with_reducible apply LW.not);rfl;rfl)
      | ((with_reducible apply LW.neg);rfl;rfl)
      | with_reducible apply LW.nil
      | ((with_reducible apply CW.nr);(repeat first | (with_reducible exact rfl) | (with_reducible apply zN)))
      | with_reducible apply CW.seq
      | with_reducible apply QF
      | with_reducible apply QN
      | with_reducible apply QI
      | with_reducible apply QD
      | with_reducible apply QB
      | with_reducible apply QA
      | ((with_reducible apply QO);(exact rfl))
      | with_reducible apply CW.region
      | with_reducible apply CW.skip
      | with_reducible apply CW.block
      | with_reducible apply CW.exit
      | (with_reducible apply CW.ret)
      | ((with_reducible apply AW.nr);(repeat first | (with_reducible exact rfl) | (with_reducible apply zN)))
      | refine gA ?_
      | ((fail_if_success (with_reducible apply LW.Uk));(with_reducible apply LW.ex);rfl))
    exact a ()):B:=f fun _=>a
theorem gs {A B:Prop} (a:A) (f:(Unit→A)→B:=by
    intro a
    repeat (first
      | ((with_reducible apply LW.nr);(repeat first | (with_reducible exact rfl) | (with_reducible apply zN)))
      | ((with_reducible apply LW.yes);rfl;rfl;(first | assumption | rfl))
      | ((with_reducible apply LW.no);rfl;rfl;(first | assumption | rfl);rfl)
      | ((with_reducible apply LW.mv);rfl;rfl)
      | ((with_reducible apply LW.fa);(exact rj.h);rfl;rfl)
      | ((with_reducible apply LW.ld);rfl;assumption;(repeat (first | exact wh | apply wj));(exact sr.h);rfl;rfl)
      | ((with_reducible apply LW.bin);rfl;rfl;rfl;rfl)
      | ((with_reducible apply LW.NV);rfl;(first | assumption | rfl);rfl;rfl)
      | ((with_reducible apply LW.Ph);rfl;(first | assumption | rfl);rfl;rfl)
      | ((with_reducible apply LW.as);rfl;rfl)
      | ((with_reducible apply LW.NM);rfl;assumption;(repeat (first | exact wh | apply wj));(exact sr.h);rfl;rfl;(repeat (first | ((with_reducible apply Nf.cons);rfl) | ((with_reducible apply Nf.nil);rfl))))
      | ((with_reducible apply LW.len);(exact wN.h);rfl;rfl)
      | ((with_reducible apply LW.O0);(exact wN.h);(exact Bg.h);rfl;rfl;assumption;assumption;rfl)
      | ((with_reducible apply LW.SI);rfl;rfl;rfl)
      | ((with_reducible apply LW.ext);rfl;rfl;rfl)
      | ((with_reducible apply LW.not);rfl;rfl)
      | ((with_reducible apply LW.neg);rfl;rfl)
      | with_reducible apply LW.nil
      | ((with_reducible apply CW.nr);(repeat first | (with_reducible exact rfl) | (with_reducible apply zN)))
      | with_reducible apply CW.seq
      | with_reducible apply QF
      | with_reducible apply QN
      | with_reducible apply QI
      | with_reducible apply QD
      | with_reducible apply QB
      | with_reducible apply QA
      | ((with_reducible apply QO);(exact rfl))
      | with_reducible apply CW.skip
      | ((with_reducible apply AW.nr);(repeat first | (with_reducible exact rfl) | (with_reducible apply zN)))
      | refine gA ?_
      | ((fail_if_success (with_reducible apply LW.Uk));(with_reducible apply LW.ex);rfl))
    exact a ()):B:=f fun _=>a
end
section
variable {P:Program} {n:Nat} {Q:tr} {e:Env} {w w0 w':World} {F0:List Nat} {L:List Item} {ops:Array Oper} {fuel:Nat} {E:xg} {listed:Array Bool} {i j:Nat}
abbrev vI (n:Int):Value:=.int .i64 n
abbrev vS (a:Option Addr) (n c:Nat):Value:=.slice a n c
abbrev Ad:=Option Addr
theorem jO (i:Nat) {o:Oper} (h:LW P n ops (fun x e' w'=>x=.normal∧Kept ops i E w w'∧AW P n ops Q fuel E (listed.setIfInBounds i true) e' w') [o] e w) (ho:ops[i]?=some o:=by rfl) (hr:Region.ready .any ops listed=[i]:=by kernel_rfl):AW P n ops Q (fuel+1) E listed e w:=AW.one hr ⟨o,ho,h⟩
theorem jN (k:Kept ops j E w0 w) (h:AW P n ops Q fuel E (listed.setIfInBounds j true) e w):LW P n ops (fun x e' w'=>x=.normal∧Kept ops j E w0 w'∧AW P n ops Q fuel E (listed.setIfInBounds j true) e' w') [] e w:=LW.nil ⟨rfl,k,h⟩
theorem jW {C:World→Prop} (k:Kept ops i E w w') (h:waits ops i j=true:=by kernel_rfl):Kept ops i ((j,C)::E) w w':=.w h k
theorem jZ:Kept ops i [] w w':=.n
theorem St.ce (h:St w0 F0 w L) (i:Nat) {g:Nat} {ty:TypeId} {cs:List Value} (hi:L[i]?=some (bx g ty cs):=by rfl):w.heap[g]?=some (.cells cs.toArray ty (0,0)):=St.cell (h:=h) hi
theorem ob {α β:Type} {x:Option α} {f:α→Option β} {b:β} (h:x.bind f=some b):∃ a,x=some a∧f a=some b:=Option.bind_eq_some_iff.1 h
theorem ch {α:Type} {y z:Option α} {r:α} {c1 c2:Code} {x:Operand} {b:Bool} (h:(bif b then y else z)=some r) (h1:b=true→y=some r→CW P n c1 Q e w) (h2:b=false→z=some r→CW P n c2 Q e w) (hx:ev e x=.bool b:=by rfl):CW P n (.cond x c1 c2) Q e w:=CW.cond hx (fun q=>h1 q (U6 h q)) (fun q=>h2 q (U1 h q))
theorem St.pk (is:List Nat) {M:List Item} (h:St w0 F0 w L) (hp:uy L is=some M:=by exact rfl) (hn:xW is=true:=by exact rfl):St w0 F0 w M:=h.pick is hp hn
theorem St.po (is:List Nat) {M:List Item} {A:Prop} (h:St w0 F0 w L) (hp:uy L is=some M:=by exact rfl) (hn:xW is=true:=by exact rfl) (a:A:=by (repeat' (first | exact trivial | exact rfl | refine ⟨?_,?_⟩))):A∧St w0 F0 w M:=⟨a,h.pick is hp hn⟩
end
abbrev rb {α:Type} [qe α] (w:World) (a:Option Addr) (c:Nat) (l:List α):Prop:=ra (r7 w []) w a c l
theorem gb {A B:Prop} {α β:Type} {x:Option α} {k:α→Option β} {b:β} (h:x.bind k=some b) (g:∀ y,x=some y→k y=some b→A) (f:autoParam ((Unit→A)→B) go._auto_1):B:=f fun _=>by
  obtain ⟨y,h1,h2⟩:=Option.bind_eq_some_iff.1 h;exact g y h1 h2
section
variable {P:Program} {n:Nat} {ops:Array Oper} {Q:tr} {rest:List Oper} {e:Env} {w:World} {d:Nat} {ty:TypeId} {pos:String} {aft:Array Edge} {t el:TypeId} {x y:Operand} {b o l c m:Nat} {k:IntKind} {i:Int}
theorem ix [hu:wN P t (.slice el)] [hz:Bg P el m] (h0:0≤i) (h1:i<l) (h:LW P n ops Q rest (tm e d (.pointer (some ⟨b,o+i.toNat * m,none⟩))) w) (hx:ev e x=.slice (some ⟨b,o,none⟩) l c:=by rfl) (hy:ev e y=.int k i:=by rfl) (hd:Nat.ble (d+1) n=true:=by rfl) :
    LW P n ops Q (⟨some d,.indexAddr t x y,ty,pos,aft,none⟩::rest) e w:=LW.u (qp.ix hu.h hz.h hx hy h0 h1) hd h
end
end Go.Kx
namespace Go.Kx
open Go Go.RowKit
set_option linter.unusedVariables false
set_option linter.unusedSimpArgs false
section
variable {α:Type} [qe α] {P:Program} {n:Nat} {Q:tr} {e:Env} {w w0:World} {F0:List Nat} {L:List Item} {ops:Array Oper} {rest:List Oper} {ty:TypeId} {pos:String} {aft:Array Edge} {d:Nat}
theorem qp.Un {ρ:Operand→Value} {t:TypeId} {x lo hi mx:Operand} {a:Option Addr} {c:Nat} {l m:List α} {i j:Int} {k1 k2 k3:IntKind} (hT:P.underlying t=some (.slice (qe.ty α))) (hz:wi P (qe.ty α)=some (qe.sz α)) (hx:ρ x=.slice a l.length c)
    (hlo:ρ lo=.int k1 i) (hhi:ρ hi=.int k2 j) (hmx:ρ mx=.int k3 (l.length:Int)) (hs:Kx.sub l i j=some m) (hlc:l.length≤c):qp P ρ (.slice t x (some lo) (some hi) (some mx)) (.slice (if l.length=i.toNat then a else a.map fun b=>b.add (i.toNat * qe.sz α)) m.length (l.length - i.toNat)):=by
  obtain ⟨h1,h2,h3,rfl,hm⟩:=yy hs;intro d ty pos aft gd w;rw [hm]
  cases hi':P.info? (qe.ty α) with
  | none=>simp [wi,hi'] at hz
  | some inf =>
    have hz':inf.size=qe.sz α:=by simpa [wi,hi'] using hz
    have h4:0≤j:=by omega
    have h5:j≤(c:Int):=by omega
    have h6:i≤(j.toNat:Int):=by omega
    have h7:(l.length:Int)≤(c:Int):=by omega
    have hb:(Instr.sliceBounds true l.length c (some (ρ lo)) (some (ρ hi)) (some (ρ mx))).run P w=.ok (i.toNat,j.toNat,l.length) w:=by
      simp [Instr.sliceBounds,Instr.sliceBound,hlo,hhi,hmx,asIntOf,h1,h2,h3,h4,h5,h6,h7]
      try omega
    simp [execOp,Instr.sliceAt,Instr.slice,run_underlying hT,hx,hb,sizeOf,typeInfo,hi',hz']
theorem qp.UJ {ρ:Operand→Value} {t:TypeId} {x lo hi:Operand} {a:Option Addr} {c k:Nat} {i j:Int} {k1 k2:IntKind} (hT:P.underlying t=some (.slice (qe.ty α))) (hz:wi P (qe.ty α)=some (qe.sz α)) (hx:ρ x=.slice a k c)
    (hlo:ρ lo=.int k1 i) (hhi:ρ hi=.int k2 j) (h1:0≤i) (h2:i≤j) (h5:j≤(c:Int)):qp P ρ (.slice t x (some lo) (some hi) none) (.slice (vr a c i.toNat (qe.sz α)) (j.toNat - i.toNat) (c - i.toNat)):=by
  intro d ty pos aft gd w
  cases hi':P.info? (qe.ty α) with
  | none=>simp [wi,hi'] at hz
  | some inf =>
    have hz':inf.size=qe.sz α:=by simpa [wi,hi'] using hz
    have h4:0≤j:=by omega
    have h6:i≤(j.toNat:Int):=by omega
    have hb:(Instr.sliceBounds true k c (some (ρ lo)) (some (ρ hi)) none).run P w=.ok (i.toNat,j.toNat,c) w:=by
      simp [Instr.sliceBounds,Instr.sliceBound,hlo,hhi,asIntOf,h1,h2,h4,h5,h6]
      try omega
    have hcu:(if c=i.toNat then a else a.map fun b=>b.add (i.toNat * inf.size))=vr a c i.toNat (qe.sz α):=by unfold vr;rw [hz']
    simp [execOp,Instr.sliceAt,Instr.slice,run_underlying hT,hx,hb,sizeOf,typeInfo,hi', ← hcu]
theorem Ky {t ty:TypeId} (hT:vw P t α) {g o:Nat} {c:Nat} {F G:List Nat} {l ys:List α} (ho:uV w (some ⟨g,o,none⟩) c F l) {ad:Addr} {cc:Nat} {news:List Value}
    (hl:news.length=ys.length * qe.sz α) (hnews:∀ (j:Nat) (u:Value),news[j]?=some u→w.cell? (ad.add j)=some u) (hels:sa w news G ys)
    (hn:(F++G).Nodup) (hlt:∀ b,b ∈ F++G→b<w.heap.size) (hroom:l.length+ys.length≤c) :
    ∃ w',(Builtin.append_ #[t,t] ty #[.slice (some ⟨g,o,none⟩) l.length c,.slice (some ad) ys.length cc]).run P w=.ok (.slice (some ⟨g,o,none⟩) (l++ys).length c) w'∧St w (F++G) w' [sl (some ⟨g,o,none⟩) c (l++ys)]:=by
  obtain ⟨i,z,hi,hz,hs,hby,hzc⟩:=hT.info;have h1:∀ u,u ∈ news→u.oneCell'=true:=fun u hu=>sa.one hels u (by rw [← hl,List.take_length];exact hu);obtain ⟨n1,n2,nd⟩:=List.nodup_append.1 hn
  rcases ho with ⟨ha,_⟩ | ⟨g',o',cur,F',ha,hg,hs',k1,k2,rfl,he⟩
  · cases ha
  · cases ha;obtain ⟨q1,q2⟩:=he.take;obtain ⟨m1,m2⟩:=List.nodup_cons.1 n1
    have hdl:(cur.toList.drop o).length=cur.size - o:=by rw [List.length_drop,Array.length_toList]
    have hfit:o+l.length * qe.sz α+news.length≤cur.size:=by
      have:(l.length+ys.length) * qe.sz α≤c * qe.sz α:=Nat.mul_le_mul_right _ hroom;rw [Nat.add_mul] at this;omega
    have hfc:=run_firstCells_some (P:=P) w (qe.sz α) ys.length ad ys.length cc news hl hnews;have hst:=run_storeCells_at P g (o+l.length * qe.sz α) (qe.ty α) news 0 cur w hg (by simpa using hfit) (fun u hu=>h1 u hu);simp only [Nat.add_zero] at hst;refine ⟨w.setRow g (cur.toList.take (o+l.length * qe.sz α)++news++cur.toList.drop (o+l.length * qe.sz α+news.length)).toArray,?_,?_⟩
    · simp [Builtin.append_,run_underlying hT.GL,sizeOf,typeInfo,hi,Builtin.lenOf,hroom,hs,hfc,add_lit,hst]
    · have hoth:∀ b,b ≠ g→(w.setRow g (cur.toList.take (o+l.length * qe.sz α)++news++cur.toList.drop (o+l.length * qe.sz α+news.length)).toArray).heap[b]?=w.heap[b]?:=fun b hb=>setRow_other w g b _ hb
      refine St.CM (G:=g::(F'++G)) (by simp) rfl rfl rfl (fun b _ hno=>hoth b fun e=>hno (by simp [e]))
        ⟨g::(F'++G),[],by simp,.inr ⟨g,o,_,F'++G,rfl,setRow_heap w g cur _ _ _ hg,?_,by simpa using hroom,k2,rfl,?_⟩,rfl⟩ ?_ ?_
      · simp only [List.size_toArray,List.length_append,List.length_take,List.length_drop,Array.length_toList];omega
      · have e:(cur.toList.take (o+l.length * qe.sz α)++news++cur.toList.drop (o+l.length * qe.sz α+news.length)).drop o=((cur.toList.drop o).take (l.length * qe.sz α)++news)++cur.toList.drop (o+l.length * qe.sz α+news.length):=by
          rw [List.append_assoc,List.drop_append_of_le_length (by have hcl:cur.toList.length=cur.size:=Array.length_toList;rw [List.length_take];omega),List.drop_take,Nat.add_sub_cancel_left, ← List.append_assoc]
        simp only [List.toList_toArray] at e ⊢;rw [e];refine sa.more (sa.append.2 ⟨_,news,F',G,rfl,rfl,by rw [List.length_take];omega,q1.frame (fun b h=>hoth b fun e=>m1 (e ▸ h)),hels.frame (fun b h=>hoth b fun e=>nd g (by simp) b h e.symm)⟩) _
      · refine List.nodup_cons.2 ⟨fun hm=>?_,List.nodup_append.2 ⟨m2,n2,fun a ha b hb e=>nd a (by simp [ha]) b hb e⟩⟩
        rcases List.mem_append.1 hm with h | h
        · exact m1 h
        · exact nd g (by simp) g h rfl
      · intro b hbm
        have:b ∈ (g::F')++G:=by simpa using hbm
        exact ⟨.inl this,by simpa using hlt b this⟩
theorem KM {t ty:TypeId} (hT:vw P t α) {g o:Nat} {c k ck:Nat} {F:List Nat} {l:List α} (ho:uV w (some ⟨g,o,none⟩) c F l) (hlt:∀ b,b ∈ F→b<w.heap.size) (hn:F.Nodup) (hk:0<k) (hroom:l.length+k≤c) :
    ∃ w',(Builtin.clear_ #[t] ty #[.slice (some ⟨g,o+l.length * qe.sz α,none⟩) k ck]).run P w=.ok (.tuple #[]) w'∧St w F w' [sl (some ⟨g,o,none⟩) c l]:=by
  obtain ⟨i,z,hi,hz,hs,hby,hzc⟩:=hT.info
  have hzs:z.cells.size=qe.sz α:=by rw [← Array.length_toList,hzc];exact qe.rn (qe.rH w)
  rcases ho with ⟨ha,_⟩ | ⟨g',o',cur,F',ha,hg,hs',k1,k2,rfl,he⟩
  · cases ha
  · cases ha;obtain ⟨q1,q2⟩:=he.take;obtain ⟨m1,m2⟩:=List.nodup_cons.1 hn;obtain ⟨news,hnews⟩:∃ news,news=(Builtin.zeroCells z.cells k).toList:=⟨_,rfl⟩
    have hl:news.length=k * qe.sz α:=by rw [hnews,Array.length_toList,size_zeroCells,hzs]
    have h1:∀ u,u ∈ news→u.oneCell'=true:=by
      intro u hu;have h0:=sa.one (sa.ME (w:=w) (α:=α) 1) u
      have:u ∈ z.cells.toList:=by
        rw [hnews] at hu;obtain ⟨i,hi,rfl⟩:=List.mem_iff_getElem.1 hu
        have hpos:0<z.cells.size:=by rw [hzs];exact qe.pos
        simp only [Builtin.zeroCells,Array.getElem_toList,Array.getElem_map,Array.getElem_range];rw [getElem!_pos z.cells _ (Nat.mod_lt _ hpos)];exact Array.getElem_mem_toList _
      rw [hzc] at this;have hzl:(qe.zc α).length=qe.sz α:=qe.rn (qe.rH w);refine h0 ?_;rw [show (List.replicate 1 (qe.zero:α)).length * qe.sz α=(qe.zc α).length by rw [hzl];simp];simpa using this
    have hdl:(cur.toList.drop o).length=cur.size - o:=by rw [List.length_drop,Array.length_toList]
    have hfit:o+l.length * qe.sz α+news.length≤cur.size:=by
      have:(l.length+k) * qe.sz α≤c * qe.sz α:=Nat.mul_le_mul_right _ hroom;rw [Nat.add_mul] at this;omega
    have hst:=run_storeCells_at P g (o+l.length * qe.sz α) (qe.ty α) news 0 cur w hg (by simpa using hfit) (fun u hu=>h1 u hu);simp only [Nat.add_zero] at hst;refine ⟨w.setRow g (cur.toList.take (o+l.length * qe.sz α)++news++cur.toList.drop (o+l.length * qe.sz α+news.length)).toArray,?_,?_⟩
    · obtain ⟨k',rfl⟩:∃ k',k=k'+1:=⟨k - 1,by omega⟩;rw [List.append_assoc] at hst;simp [Builtin.clear_,run_underlying hT.GL,zeroValue,typeInfo,hi,hz, ← hnews,hst]
    · have hoth:∀ b,b ≠ g→(w.setRow g (cur.toList.take (o+l.length * qe.sz α)++news++cur.toList.drop (o+l.length * qe.sz α+news.length)).toArray).heap[b]?=w.heap[b]?:=fun b hb=>setRow_other w g b _ hb
      refine St.CM (G:=g::F') (by simp) rfl rfl rfl (fun b _ hno=>hoth b fun e=>hno (by simp [e]))
        ⟨g::F',[],by simp,.inr ⟨g,o,_,F',rfl,setRow_heap w g cur _ _ _ hg,?_,by omega,k2,rfl,?_⟩,rfl⟩ hn ?_
      · simp only [List.size_toArray,List.length_append,List.length_take,List.length_drop,Array.length_toList];omega
      · have e:(cur.toList.take (o+l.length * qe.sz α)++news++cur.toList.drop (o+l.length * qe.sz α+news.length)).drop o=((cur.toList.drop o).take (l.length * qe.sz α)++news)++cur.toList.drop (o+l.length * qe.sz α+news.length):=by
          rw [List.append_assoc,List.drop_append_of_le_length (by have hcl:cur.toList.length=cur.size:=Array.length_toList;rw [List.length_take];omega),List.drop_take,Nat.add_sub_cancel_left, ← List.append_assoc]
        simp only [List.toList_toArray] at e ⊢;rw [e];have hm:=sa.more (q1.frame (fun b h=>hoth b fun e=>m1 (e ▸ h))) (news++cur.toList.drop (o+l.length * qe.sz α+news.length))
        rwa [← List.append_assoc] at hm
      · intro b hbm;exact ⟨.inl hbm,by simpa using hlt b hbm⟩
theorem Pn {g o c i m:Nat}:∃ ad,vr (some ⟨g,o,none⟩) c i m=some ad:=by
  unfold vr;split<;>exact ⟨_,rfl⟩
theorem NR {L:List Item} {k:Nat} {y:Item} (h:L[k]?=some y):L.set k y=L:=by
  apply List.ext_getElem? fun i=>?_;rw [List.getElem?_set];split
  · rename_i e;subst e;rw [if_pos (rD h),h]
  · rfl
theorem LW.UN [Flat α] {t:TypeId} {x y:Operand} {k:Nat} {a a1 a2:Option Addr} {c c1 c2:Nat} {l m0 m1 m2:List α} {i j:Int} (hT:vw P t α) (hS:St w0 F0 w L) (hi:L[k]?=some (sl a c l))
    (h0:Kx.sub l i j=some m0) (hij:(i==j)=false) (h1:Kx.sub l 0 i=some m1) (h2:Kx.sub l j (l.length:Int)=some m2)
    (hx:ev e x=.slice a1 m1.length c1) (e1:a1=vr a c (0:Int).toNat (qe.sz α)) (f1:c1=c - (0:Int).toNat) (hy:ev e y=.slice a2 m2.length c2) (e2:a2=vr a c j.toNat (qe.sz α)) (f2:c2=c - j.toNat) (hd:Nat.ble (d+1) n=true)
    (h:∀ w':World,St w0 F0 w' (L.set k (sl a c (m1++m2)))→LW P n ops Q rest (tm e d (.slice a (m1++m2).length c)) w') :
    LW P n ops Q (⟨some d,.call { callee:=.builtin .append,args:=#[x,y],argTypes:=#[t,t] },ty,pos,aft,none⟩::rest) e w:=by
  have hij:i ≠ j:=by simpa using hij
  obtain ⟨b0,b1,b2,_,_⟩:=yy h0;obtain ⟨_,_,_,_,z1⟩:=yy h1;obtain ⟨_,_,_,_,z2⟩:=yy h2;have hle:=(hS.rI k hi).le;have rd2:=(hS.rI k hi).sub h2
  obtain ⟨g,o,rfl⟩:∃ g o,a=some ⟨g,o,none⟩:=by
    obtain ⟨F,hF,_,_⟩:=hS.own;obtain ⟨Fi,q,_⟩:=hF.at_ k hi
    rcases q with ⟨_,_,hl,_⟩ | ⟨g,o,_,_,ha,_⟩
    · rw [hl] at b2;simp at b2;omega
    · exact ⟨g,o,ha⟩
  have hs0:vr (some (⟨g,o,none⟩:Addr)) c (0:Int).toNat (qe.sz α)=some ⟨g,o,none⟩:=by
    unfold vr;rw [if_neg (by simp;omega)];simp [add_lit]
  obtain ⟨_,a',c',ea,ec,hS1⟩:=hS.B3 k hi h1;rw [hs0] at ea e1;simp only [Int.toNat_zero,Nat.sub_zero] at ec f1;subst ea;subst ec;subst e1;subst f1;have hkl:=rD hi;have hi1:(L.set k (sl (some ⟨g,o,none⟩) c1 m1))[k]?=some (sl (some ⟨g,o,none⟩) c1 m1):=List.getElem?_set_self hkl;have h':St w0 F0 w ([sl (some ⟨g,o,none⟩) c1 m1]++(L.set k (sl (some ⟨g,o,none⟩) c1 m1)).eraseIdx k):=hS1.front k hi1;obtain ⟨F,hF,hn,hlt2,_,_,hm⟩:=h'.share;obtain ⟨F1,F2,rfl,q1,q2⟩:=hF;cases (show F2=[] from q2);rw [List.append_nil] at hn hlt2 hm;obtain ⟨news,g1,g2,g3⟩:=sa.flat rd2;obtain ⟨ad,had⟩:=Pn (g:=g) (o:=o) (c:=c1) (i:=j.toNat) (m:=qe.sz α)
  have hnews:∀ (q:Nat) (u:Value),news[q]?=some u→w.cell? (ad.add q)=some u:=by
    intro q u hu
    by_cases hne:m2=[]
    · subst hne;simp at g1;subst g1;simp at hu
    · obtain ⟨b,o2,hb,hc⟩:=g3 hne;rw [had] at hb;cases hb;rw [add_lit];exact hc q u hu
  obtain ⟨w',hr,hst⟩:=Ky (ty:=ty) (cc:=c2) hT q1 g1 hnews (g2 w) (by simpa using hn) (by simpa using hlt2) (by omega);rw [List.append_nil] at hst;have hfin:=(hm w' _ hst).perm (eraseIdx_set (L.set k (sl (some ⟨g,o,none⟩) c1 m1)) k _ (rD hi1));rw [List.set_set] at hfin;rw [had] at e2;subst e2;refine LW.run (v:=.slice (some ⟨g,o,none⟩) (m1++m2).length c1) ?_ hd (h w' hfin);simp only [execOp,resolve,invoke,builtin,Sem.run_bind,Sem.run_pure,Result.andThen_ok,List.map_toArray,List.map_cons,List.map_nil,hx,hy,hr]
theorem LW.U3 {t:TypeId} {x:Operand} {k:Nat} {a:Option Addr} {c kk ck:Nat} {l:List α} (hT:vw P t α) (hS:St w0 F0 w L) (hi:L[k]?=some (sl a c l)) (hx:ev e x=.slice (vr a c l.length (qe.sz α)) kk ck) (hk:0<kk) (hroom:l.length+kk≤c)
    (h:∀ w':World,St w0 F0 w' L→LW P n ops Q rest e w') :
    LW P n ops Q (⟨none,.call { callee:=.builtin .clear,args:=#[x],argTypes:=#[t] },ty,pos,aft,none⟩::rest) e w:=by
  obtain ⟨g,o,rfl⟩:∃ g o,a=some ⟨g,o,none⟩:=by
    obtain ⟨F,hF,_,_⟩:=hS.own;obtain ⟨Fi,q,_⟩:=hF.at_ k hi
    rcases q with ⟨_,hc,_,_⟩ | ⟨g,o,_,_,ha,_⟩
    · omega
    · exact ⟨g,o,ha⟩
  have hsub:vr (some (⟨g,o,none⟩:Addr)) c l.length (qe.sz α)=some ⟨g,o+l.length * qe.sz α,none⟩:=by
    unfold vr;rw [if_neg (by omega)];simp [add_lit]
  rw [hsub] at hx;have h':St w0 F0 w ([sl (some ⟨g,o,none⟩) c l]++L.eraseIdx k):=hS.front k hi;obtain ⟨F,hF,hn,hlt2,_,_,hm⟩:=h'.share;obtain ⟨F1,F2,rfl,q1,q2⟩:=hF;cases (show F2=[] from q2);rw [List.append_nil] at hn hlt2 hm;obtain ⟨w',hr,hst⟩:=KM (ty:=ty) (ck:=ck) hT q1 hlt2 hn hk hroom;have hfin:=(hm w' _ hst).perm (eraseIdx_set L k _ (rD hi));rw [NR hi] at hfin;intro a ha;refine wpList_plain rfl fun K hK=>?_;unfold Oper.wp;rw [ha.eval]
  have hr2:(execOp (ev e) ⟨none,.call { callee:=.builtin .clear,args:=#[x],argTypes:=#[t] },ty,pos,aft,none⟩).run P w=.ok (.value (.tuple #[])) w':=by
    simp only [execOp,resolve,invoke,builtin,Sem.run_bind,Sem.run_pure,Result.andThen_ok,List.map_toArray,List.map_cons,List.map_nil,hx,hr]
  rw [hr2];exact hK _ _ (h w' hfin _ ha)
end
theorem RR {β:Type} {l m0 m1 m2:List β} {i j:Int} (h0:Kx.sub l i j=some m0) (hij:(i==j)=false) (h1:Kx.sub l 0 i=some m1) (h2:Kx.sub l j (l.length:Int)=some m2):(m1++m2).length<l.length:=by
  have hij:i ≠ j:=by simpa using hij
  obtain ⟨b0,b1,b2,_,_⟩:=yy h0;obtain ⟨_,_,_,_,z1⟩:=yy h1;obtain ⟨_,_,_,_,z2⟩:=yy h2;rw [List.length_append];omega
section
variable {α:Type} [qe α] {P:Program} {n:Nat} {Q:tr} {e:Env} {w w0:World} {F0:List Nat} {L:List Item} {ops:Array Oper} {rest:List Oper} {ty:TypeId} {pos:String} {aft:Array Edge} {d:Nat}
end
section
variable {α:Type} [qe α] {P:Program} {n:Nat} {Q:tr} {e:Env} {w w0:World} {F0:List Nat} {L:List Item} {ops:Array Oper} {rest:List Oper} {ty:TypeId} {pos:String} {aft:Array Edge} {d:Nat}
def Raw (α:Type) [qe α]:Type:={v:List Value // v.length=qe.sz α∧∀ u,u ∈ v→u.oneCell'=true}
instance:qe (Raw α) where
  ty:=qe.ty α
  sz:=qe.sz α
  zero:=⟨qe.zc α,qe.rn (qe.rH (α:=α) default),qe.sI (qe.rH (α:=α) default)⟩
  zc:=qe.zc α
  pos:=qe.pos
  rd _ _ cs x:=cs=x.1
  own _ cs F x:=cs=x.1∧F=[]
  tI:=by intro _ _ _ x h;rw [h];exact x.2.1
  rn:=by intro _ _ _ x h;rw [h.1];exact x.2.1
  sR h _:=h
  sU h _:=h
  sb h _:=h
  tG h _:=h.1
  sI:=by intro _ _ _ x h;rw [h.1];exact x.2.2
  rH _:=⟨rfl,rfl⟩
end
end Go.Kx
namespace Go.Kx
open Go Go.RowKit
set_option linter.unusedVariables false
set_option linter.unusedSimpArgs false
set_option linter.unusedSectionVars false
section
variable {w w0:World} {F0:List Nat} {L K:List Item}
theorem St.conv {α:Type} {M:α→List Item} {R:α→Prop} (hS:St w0 F0 w (K++L)) (h:∀ F,qX K w F→∃ x F',R x∧F'.Perm F∧qX (M x) w F'):∃ x,R x∧St w0 F0 w (M x++L):=by
  obtain ⟨F,hF,hn,hb⟩:=hS.own;obtain ⟨F1,F2,rfl,h1,h2⟩:=qX.append.1 hF;obtain ⟨x,F',hR,hp,hM⟩:=h F1 h1;have hp2:(F'++F2).Perm (F1++F2):=hp.append_right F2;exact ⟨x,hR,hS.os,hS.tape,hS.output,hS.size,hS.same,F'++F2,qX.append.2 ⟨F',F2,rfl,hM,h2⟩,hp2.nodup_iff.2 hn,fun b hm=>hb b (hp2.mem_iff.1 hm)⟩
end
def z5 (p:cd) (h:Hd):rW:=rW.mk p.Vb p.own h p.U7 p.pU p.Vj p.Vk p.bh p.pZ p.Vi
def CZ (v:rW) (t:List qc):cd:=cd.mk v.Vb v.own t v.U7 v.pU v.Vj v.Vk v.bh v.pZ v.Vi
def DV:List Hd→List (List qc)→List Item
  | h::hs,t::ts=>sl h.a h.c t::DV hs ts
  | _,_=>[]
def tl (hs:List Hd) (ts:List (List qc)):Item:=⟨fun w F=>qX (DV hs ts) w F,fun _ _ _ h hb=>h.frame hb⟩
def wk:List Hd→List (List qc)→Prop
  | [],[]=>True
  | h::hs,t::ts=>h.n=t.length∧wk hs ts
  | _,_=>False
theorem wk.len:∀ {hs:List Hd} {ts:List (List qc)},wk hs ts→hs.length=ts.length
  | [],[],_=>rfl
  | _::_,_::_,h=>by simp [wk.len h.2]
  | [],_::_,h=>h.elim
  | _::_,[],h=>h.elim
section
variable {w:World}
theorem NF {cs:List Value} {F:List Nat} {x:cd} (h:qe.own w cs F x):∃ (k:Hd) (F1 F2:List Nat),(F1++F2).Perm F∧qe.own w cs F1 (z5 x k)∧uV w k.a k.c F2 x.Vd∧k.n=x.Vd.length:=by
  obtain ⟨a0,c0,a1,c1,a2,c2,a3,c3,a7,c7,a8,c8,rfl,f0,r0,rfl,h0,f1,r1,rfl,h1,f2,r2,rfl,h2,hr⟩:=h;refine ⟨⟨a2,x.Vd.length,c2⟩,f0++(f1++r2),f2,?_,⟨a0,c0,a1,c1,a3,c3,a7,c7,a8,c8,rfl,f0,_,rfl,h0,f1,_,rfl,h1,hr⟩,h2,rfl⟩;rw [List.append_assoc,List.append_assoc];exact (List.perm_append_comm.append_left f1).append_left f0
theorem MX {cs:List Value} {F1 F2:List Nat} {v:rW} {t:List qc} (h:qe.own w cs F1 v) (ht:uV w v.Vd.a v.Vd.c F2 t) (hn:v.Vd.n=t.length):∃ F,F.Perm (F1++F2)∧qe.own w cs F (CZ v t):=by
  obtain ⟨lb,ow,⟨ta,tn,tc⟩,hp,tp,nx,wt,sp,pr,lo⟩:=v;cases hn;obtain ⟨a0,c0,a1,c1,a3,c3,a7,c7,a8,c8,rfl,f0,r0,rfl,h0,f1,r1,rfl,h1,hr⟩:=h;refine ⟨f0++(f1++(F2++r1)),?_,a0,c0,a1,c1,ta,tc,a3,c3,a7,c7,a8,c8,rfl,f0,_,rfl,h0,f1,_,rfl,h1,F2,_,rfl,ht,hr⟩;rw [List.append_assoc,List.append_assoc];exact (List.perm_append_comm.append_left f1).append_left f0
theorem four {a b c d:List Nat}:((a++b)++(c++d)).Perm ((a++c)++(b++d)):=by
  simp only [List.append_assoc];refine List.Perm.append_left a ?_;rw [← List.append_assoc, ← List.append_assoc];exact List.perm_append_comm.append_right d
theorem Hr:∀ {l:List cd} {cs:List Value} {F:List Nat},sa w cs F l→∃ (hs:List Hd) (F1 F2:List Nat),(F1++F2).Perm F∧sa w cs F1 (List.zipWith z5 l hs)∧qX (DV hs (l.map (·.Vd))) w F2∧wk hs (l.map (·.Vd))
  | [],cs,F,h=>⟨[],[],[],by cases (show F=[] from h);exact List.Perm.refl _,rfl,rfl,trivial⟩
  | x::l,cs,F,⟨c1,c2,G1,G2,hc,hF,h1,h2⟩=>by
    subst hF;obtain ⟨hs,F1,F2,p1,e1,e2,e3⟩:=Hr h2;obtain ⟨k,H1,H2,p2,d1,d2,d3⟩:=NF h1;exact ⟨k::hs,H1++F1,H2++F2,four.trans (p2.append p1),⟨c1,c2,H1,F1,hc,rfl,d1,e1⟩,⟨H2,F2,rfl,d2,e2⟩,d3,e3⟩
theorem Hf:∀ {l:List rW} {ts:List (List qc)} {cs:List Value} {F1 F2:List Nat},sa w cs F1 l→qX (DV (l.map (·.Vd)) ts) w F2→wk (l.map (·.Vd)) ts→∃ F,F.Perm (F1++F2)∧sa w cs F (List.zipWith CZ l ts)
  | [],[],cs,F1,F2,h,hh,_=>⟨[],by cases (show F1=[] from h);cases (show F2=[] from hh);exact List.Perm.refl _,rfl⟩
  | [],_::_,_,_,_,_,_,h=>h.elim
  | _::_,[],_,_,_,_,_,h=>h.elim
  | x::l,t::ts,cs,F1,F2,⟨c1,c2,G1,G2,hc,hF,h1,h2⟩,⟨H1,H2,hH,k1,k2⟩,⟨n1,n2⟩=>by
    subst hF;subst hH;obtain ⟨F,p1,e1⟩:=Hf h2 k2 n2;obtain ⟨E,p2,e2⟩:=MX h1 k1 n1;exact ⟨E++F,(p2.append p1).trans four,⟨c1,c2,E,F,hc,rfl,e2,e1⟩⟩
theorem Gy:∀ {l:List qF} {cs:List Value} {F:List Nat},sa w cs F l→∃ hs:List Hd,sa w cs [] (hs.map sd.mk)∧qX (DV hs (l.map (·.Vt))) w F∧wk hs (l.map (·.Vt))
  | [],cs,F,h=>⟨[],rfl,h,trivial⟩
  | x::l,cs,F,⟨c1,c2,G1,G2,hc,hF,h1,h2⟩=>by
    subst hF;obtain ⟨hs,e1,e2,e3⟩:=Gy h2;obtain ⟨a,c,rfl,f,r,rfl,d1,dr⟩:=h1;cases (show r=[] from dr);rw [List.append_nil];exact ⟨⟨a,x.Vt.length,c⟩::hs,⟨_,c2,[],[],hc,rfl,⟨rfl,rfl⟩,e1⟩,⟨f,G2,rfl,d1,e2⟩,rfl,e3⟩
theorem Hi:∀ {hs:List Hd} {ts:List (List qc)} {cs:List Value} {F1 F2:List Nat},sa w cs F1 (hs.map sd.mk)→qX (DV hs ts) w F2→wk hs ts→F1=[]∧sa w cs F2 (ts.map qF.mk)
  | [],[],_,_,_,h,hh,_=>⟨h,hh⟩
  | [],_::_,_,_,_,_,_,h=>h.elim
  | _::_,[],_,_,_,_,_,h=>h.elim
  | ⟨a,n,c⟩::hs,t::ts,cs,F1,F2,⟨c1,c2,G1,G2,hc,hF,h1,h2⟩,⟨H1,H2,hH,k1,k2⟩,⟨n1,n2⟩=>by
    subst hF;subst hH;cases n1;obtain ⟨rfl,rfl⟩:=h1;obtain ⟨rfl,e⟩:=Hi h2 k2 n2;exact ⟨rfl,_,c2,H1,H2,hc,rfl,⟨a,c,rfl,H1,[],by simp,k1,rfl⟩,e⟩
theorem HS {l:List cd} {hs:List Hd} (h:wk hs (l.map (·.Vd))):(List.zipWith z5 l hs).length=l.length:=by
  have:=h.len;rw [List.length_map] at this;rw [List.length_zipWith,this,Nat.min_self]
theorem P8 {l:List rW} {ts:List (List qc)} (h:wk (l.map (·.Vd)) ts):(List.zipWith CZ l ts).length=l.length:=by
  have:=h.len;rw [List.length_map] at this;rw [List.length_zipWith,this,Nat.min_self]
variable {w0:World} {F0:List Nat} {L:List Item} {a:Option Addr} {c:Nat}
theorem St.N0 {l:List cd} (hS:St w0 F0 w (sl a c l::L)):∃ hs:List Hd,wk hs (l.map (·.Vd))∧St w0 F0 w (sl a c (List.zipWith z5 l hs)::tl hs (l.map (·.Vd))::L):=by
  refine St.conv (K:=[sl a c l]) (M:=fun hs=>[sl a c (List.zipWith z5 l hs),tl hs (l.map (·.Vd))]) hS ?_;rintro F ⟨F1,F2,rfl,h,h2⟩;cases (show F2=[] from h2)
  rcases h with ⟨rfl,rfl,rfl,rfl⟩ | ⟨g,o,cur,F',ha,hg,hs,h1,h2,hF,he⟩
  · exact ⟨[],[],trivial,List.Perm.refl _,[],[],rfl,.inl ⟨rfl,rfl,rfl,rfl⟩,[],[],rfl,rfl,rfl⟩
  · subst hF;obtain ⟨hs',G1,G2,p,e1,e2,e3⟩:=Hr he;refine ⟨hs',(g::G1)++(G2++[]),e3,?_,g::G1,_,rfl,.inr ⟨g,o,cur,G1,ha,hg,hs,by rw [HS e3];exact h1,h2,rfl,e1⟩,G2,[],rfl,e2,rfl⟩;rw [List.append_nil,List.append_nil];exact p.cons g
theorem St.NZ {l:List rW} {hs:List Hd} {ts:List (List qc)} (hS:St w0 F0 w (sl a c l::tl hs ts::L)) (he:l.map (·.Vd)=hs) (hl:wk hs ts):St w0 F0 w (sl a c (List.zipWith CZ l ts)::L):=by
  subst he
  obtain ⟨_,_,h⟩:=St.conv (α:=Unit) (K:=[sl a c l,tl (l.map (·.Vd)) ts]) (M:=fun _=>[sl a c (List.zipWith CZ l ts)]) (R:=fun _=>True) hS (by
    rintro F ⟨F1,F2,rfl,h,F3,F4,rfl,h3,h4⟩;cases (show F4=[] from h4)
    rcases h with ⟨rfl,rfl,rfl,rfl⟩ | ⟨g,o,cur,F',ha,hg,hs,h1,h2,hF,he⟩
    · cases ts with
      | nil=>cases (show F3=[] from h3);exact ⟨(),[],trivial,List.Perm.refl _,[],[],rfl,.inl ⟨rfl,rfl,rfl,rfl⟩,rfl⟩
      | cons t ts=>exact hl.elim
    · subst hF;obtain ⟨G,p,e⟩:=Hf he h3 hl;refine ⟨(),(g::G)++[],trivial,?_,g::G,[],rfl,.inr ⟨g,o,cur,G,ha,hg,hs,by rw [P8 hl];exact h1,h2,rfl,e⟩,rfl⟩;rw [List.append_nil,List.append_nil]
      exact p.cons g)
  exact h
theorem St.S9 {l:List qF} (hS:St w0 F0 w (sl a c l::L)):∃ hs:List Hd,wk hs (l.map (·.Vt))∧St w0 F0 w (sl a c (hs.map sd.mk)::tl hs (l.map (·.Vt))::L):=by
  refine St.conv (K:=[sl a c l]) (M:=fun hs=>[sl a c (hs.map sd.mk),tl hs (l.map (·.Vt))]) hS ?_;rintro F ⟨F1,F2,rfl,h,h2⟩;cases (show F2=[] from h2)
  rcases h with ⟨rfl,rfl,rfl,rfl⟩ | ⟨g,o,cur,F',ha,hg,hs,h1,h2,hF,he⟩
  · exact ⟨[],[],trivial,List.Perm.refl _,[],[],rfl,.inl ⟨rfl,rfl,rfl,rfl⟩,[],[],rfl,rfl,rfl⟩
  · subst hF;obtain ⟨hs',e1,e2,e3⟩:=Gy he;refine ⟨hs',(g::[])++(F'++[]),e3,by simp,[g],_,rfl,.inr ⟨g,o,cur,[],ha,hg,hs,?_,h2,rfl,e1⟩,F',[],rfl,e2,rfl⟩;have:=e3.len;rw [List.length_map] at this;rw [List.length_map,this];exact h1
theorem St.Of {hs:List Hd} {ts:List (List qc)} (hS:St w0 F0 w (sl a c (hs.map sd.mk)::tl hs ts::L)) (hl:wk hs ts):St w0 F0 w (sl a c (ts.map qF.mk)::L):=by
  obtain ⟨_,_,h⟩:=St.conv (α:=Unit) (K:=[sl a c (hs.map sd.mk),tl hs ts]) (M:=fun _=>[sl a c (ts.map qF.mk)]) (R:=fun _=>True) hS (by
    rintro F ⟨F1,F2,rfl,h,F3,F4,rfl,h3,h4⟩;cases (show F4=[] from h4)
    rcases h with ⟨rfl,rfl,h5,rfl⟩ | ⟨g,o,cur,F',ha,hg,hs',h1,h2,hF,he⟩
    · cases hs with
      | cons _ _=>cases h5
      | nil=>cases ts with
        | nil=>cases (show F3=[] from h3);exact ⟨(),[],trivial,List.Perm.refl _,[],[],rfl,.inl ⟨rfl,rfl,rfl,rfl⟩,rfl⟩
        | cons t ts=>exact hl.elim
    · subst hF;obtain ⟨rfl,e⟩:=Hi he h3 hl;have hn:=hl.len;rw [List.length_map] at h1
      exact ⟨(),(g::F3)++[],trivial,by simp,g::F3,[],rfl,.inr ⟨g,o,cur,F3,ha,hg,hs',by rw [List.length_map, ← hn];exact h1,h2,rfl,e⟩,rfl⟩)
  exact h
theorem Ho:∀ {hs hs':List Hd} {ts ts':List (List qc)},wk hs ts→DV (hs++hs') (ts++ts')=DV hs ts++DV hs' ts'
  | [],_,[],_,_=>rfl
  | [],_,_::_,_,h=>h.elim
  | _::_,_,[],_,h=>h.elim
  | h::hs,hs',t::ts,ts',k=>by
    show _::DV (hs++hs') (ts++ts')=_::(DV hs ts++DV hs' ts')
    rw [Ho k.2]
theorem wk.snoc:∀ {hs:List Hd} {ts:List (List qc)} {h:Hd} {t:List qc},wk hs ts→h.n=t.length→wk (hs++[h]) (ts++[t])
  | [],[],_,_,_,h=>⟨h,trivial⟩
  | [],_::_,_,_,k,_=>k.elim
  | _::_,[],_,_,k,_=>k.elim
  | _::_,_::_,_,_,k,h=>⟨k.1,wk.snoc k.2 h⟩
theorem St.TR {hs:List Hd} {ts:List (List qc)} {t:List qc} {h:Hd} (hS:St w0 F0 w (sl h.a h.c t::tl hs ts::L)) (hl:wk hs ts) (hn:h.n=t.length):St w0 F0 w (tl (hs++[h]) (ts++[t])::L):=by
  obtain ⟨_,_,k⟩:=St.conv (α:=Unit) (K:=[sl h.a h.c t,tl hs ts]) (M:=fun _=>[tl (hs++[h]) (ts++[t])]) (R:=fun _=>True) hS (by
    rintro F ⟨F1,F2,rfl,h1,F3,F4,rfl,h3,h4⟩;cases (show F4=[] from h4);refine ⟨(),(F3++F1)++[],trivial,by rw [List.append_nil,List.append_nil];exact List.perm_append_comm,F3++F1,[],rfl,?_,rfl⟩
    show qX (DV (hs++[h]) (ts++[t])) w (F3++F1)
    rw [Ho hl]
    exact qX.append.2 ⟨F3,F1,rfl,h3,F1,[],by simp,h1,rfl⟩)
  exact k
theorem St.U0 (hS:St w0 F0 w L):St w0 F0 w (tl [] []::L):=by
  obtain ⟨_,_,k⟩:=St.conv (α:=Unit) (K:=[]) (M:=fun _=>[tl [] []]) (R:=fun _=>True) hS (fun F hF=>⟨(),[],trivial,by cases (show F=[] from hF);exact List.Perm.refl _,[],[],rfl,rfl,rfl⟩);exact k
end
theorem I0 {β:Type} {b:Bool} {k:Unit→Option β} {r:β} (h:(gd b).bind k=some r):b=true∧k ()=some r:=by
  cases b with
  | true=>exact ⟨rfl,h⟩
  | false=>cases h
def Ek (z:rW) (y:sd):rW:=rW.mk z.Vb z.own y.Vt z.U7 z.pU z.Vj z.Vk z.bh z.pZ z.Vi
theorem Js {pv:List rW} {n N:Nat} (hn:n=pv.length) (hN:pv.length<N) (hB:pv.length<pW) :
    ∃ o,iter (fun s:(List sd)×Int=>(bif decide (s.2<(n:Int)) then ((idx pv s.2).bind fun y=>(app s.1 [sd.mk y.Vd]).bind fun z=>some (.inl (z,IntKind.i64.wrap (s.2+1)))) else some (.inr (s.1,s.2)):Option (((List sd)×Int)⊕((List sd)×Int)))) N ([],0)=some o∧o.1=pv.map fun v=>sd.mk v.Vd:=by
  subst hn;refine ⟨_,Dh (fun k=>((pv.take k).map fun v=>sd.mk v.Vd,(k:Int))) pv.length (r:=(pv.map fun v=>sd.mk v.Vd,(pv.length:Int))) hN ?_ ?_,rfl⟩
  · intro k hk;have hy:pv[k]?=some pv[k]:=List.getElem?_eq_getElem hk
    have hl:((pv.take k).map fun v=>sd.mk v.Vd).length=k:=by rw [List.length_map,List.length_take];omega
    simp only [qQ hk,Vy,qv,hy,Vw]
    have e:pv.take (k+1)=pv.take k++[pv[k]]:=by rw [List.take_add_one,hy];rfl
    rw [tQ (k:=k) (by rw [hl];exact Nat.le_refl _) (by omega),Vw,qV (Nat.lt_trans hk hB),e,List.map_append];rfl
  · simp only [qR,Vx,List.take_length]
theorem Q6 {pv:List rW} {tv:List sd} {n N:Nat} (hn:n=tv.length) (hl:tv.length=pv.length) (hN:tv.length<N) (hB:tv.length<pW) :
    ∃ o,iter (fun s:(List rW)×Int=>(bif decide (s.2<(n:Int)) then ((idx tv s.2).bind fun y=>(idx s.1 s.2).bind fun z=>(some (s.1.set (s.2:Int).toNat (rW.mk z.Vb z.own y.Vt z.U7 z.pU z.Vj z.Vk z.bh z.pZ z.Vi))).bind fun q=>some (.inl (q,IntKind.i64.wrap (s.2+1)))) else some (.inr (s.1,s.2)):Option (((List rW)×Int)⊕((List rW)×Int)))) N (pv,0)=some o∧o.1=List.zipWith Ek pv tv:=by
  subst hn;refine ⟨_,Dh (fun k=>(List.zipWith Ek (pv.take k) (tv.take k)++pv.drop k,(k:Int))) tv.length (r:=(List.zipWith Ek pv tv,(tv.length:Int))) hN ?_ ?_,rfl⟩
  · intro k hk;have hy:tv[k]?=some tv[k]:=List.getElem?_eq_getElem hk;have hz:pv[k]?=some (pv[k]'(hl ▸ hk)):=List.getElem?_eq_getElem _
    have hL:(List.zipWith Ek (pv.take k) (tv.take k)).length=k:=by rw [List.length_zipWith,List.length_take,List.length_take];omega
    have hd:pv.drop k=(pv[k]'(hl ▸ hk))::pv.drop (k+1):=List.drop_eq_getElem_cons _
    have hg:(List.zipWith Ek (pv.take k) (tv.take k)++pv.drop k)[k]?=some (pv[k]'(hl ▸ hk)):=by
      rw [List.getElem?_append_right (by omega),hL,Nat.sub_self,hd];rfl
    simp only [qQ hk,Vy,qv,hy,hg,Vw,qV (Nat.lt_trans hk hB),Int.toNat_natCast];refine congrArg (fun q=>some (Sum.inl (q,((k+1:Nat):Int)))) ?_
    have e1:pv.take (k+1)=pv.take k++[pv[k]'(hl ▸ hk)]:=by rw [List.take_add_one,hz];rfl
    have e2:tv.take (k+1)=tv.take k++[tv[k]]:=by rw [List.take_add_one,hy];rfl
    rw [List.set_append,if_neg (by omega),hL,Nat.sub_self,hd,e1,e2,List.zipWith_append (by rw [List.length_take,List.length_take];omega),List.append_assoc];rfl
  · simp only [qR,Vx];rw [List.take_length,hl,List.take_length,List.drop_length,List.append_nil]
theorem HB:∀ {l:List cd} {hs:List Hd},hs.length=l.length→(List.zipWith z5 l hs).map (fun v=>sd.mk v.Vd)=hs.map sd.mk
  | [],[],_=>rfl
  | [],_::_,h=>by simp at h
  | _::_,[],h=>by simp at h
  | _::l,_::hs,h=>by
    show _::(List.zipWith z5 l hs).map _=_::hs.map _
    rw [HB (by simpa using h)];rfl
theorem NY:∀ {pv:List rW} {ht:List Hd},ht.length=pv.length→(List.zipWith Ek pv (ht.map sd.mk)).map (·.Vd)=ht
  | [],[],_=>rfl
  | [],_::_,h=>by simp at h
  | _::_,[],h=>by simp at h
  | v::pv,h::ht,k=>by
    show h::(List.zipWith Ek pv (ht.map sd.mk)).map (·.Vd)=h::ht
    rw [NY (by simpa using k)]
theorem Mb:∀ {l:List cd} {hs ht:List Hd} {ts:List (List qc)},hs.length=l.length→ht.length=l.length→List.zipWith CZ (List.zipWith Ek (List.zipWith z5 l hs) (ht.map sd.mk)) ts=sO l ts
  | [],_,_,_,_,_=>by simp [sO]
  | _::_,[],_,_,h,_=>by simp at h
  | _::_,_::_,[],_,_,h=>by simp at h
  | _::l,_::hs,_::ht,[],_,_=>by simp [sO]
  | p::l,h::hs,k::ht,t::ts,h1,h2=>by
    show Aw p t::List.zipWith CZ (List.zipWith Ek (List.zipWith z5 l hs) (ht.map sd.mk)) ts=Aw p t::sO l ts
    rw [Mb (by simpa using h1) (by simpa using h2)]
theorem E9 {l:List cd} {ts:List (List qc)} (h:ts.length=l.length):(sO l ts).length=l.length:=by
  unfold sO;rw [List.length_zipWith,h,Nat.min_self]
theorem Q8 {l:List cd} {hs:List Hd} {pv:List rW} {i:Int} {z:cd} (hpv:pv=List.zipWith z5 l hs) (hhs:hs.length=l.length) (hz:idx l i=some z):∃ h,idx pv i=some (z5 z h):=by
  unfold idx at hz ⊢;split at hz
  · have hlt:i.toNat<hs.length:=by rw [hhs];exact (List.getElem?_eq_some_iff.1 hz).1
    refine ⟨hs[i.toNat],?_⟩;rw [if_pos (by assumption),hpv,List.getElem?_zipWith,hz,List.getElem?_eq_getElem hlt]
  · cases hz
def Rl (l:List cd) (pv:List rW) (hs:List Hd) (ts:List (List qc)) (i:Int):Prop :=
  (∃ h0:List Hd,h0.length=l.length∧pv=List.zipWith z5 l h0∧h0.take hs.length=hs)∧wk hs ts∧i=(hs.length:Int)
theorem Rl.nn {l:List cd} {pv:List rW} {hs:List Hd} {ts:List (List qc)} {i:Int} (h:Rl l pv hs ts i):0≤i:=by rw [h.2.2];omega
theorem Rl.ix {l:List cd} {pv:List rW} {hs:List Hd} {ts:List (List qc)} {i:Int} (h:Rl l pv hs ts i) (hc:decide (i<(l.length:Int))=true):∃ v,idx pv i=some v:=by
  obtain ⟨⟨h0,e0,rfl,_⟩,_,rfl⟩:=h;have hk:=of_decide_eq_true hc
  have hlt:hs.length<l.length:=by omega
  exact ⟨z5 (l[hs.length]'hlt) (h0[hs.length]'(by omega)),by rw [qv,List.getElem?_zipWith,List.getElem?_eq_getElem hlt,List.getElem?_eq_getElem (by omega)]⟩
theorem Rl.step {l:List cd} {pv:List rW} {hs:List Hd} {ts:List (List qc)} {i:Int} {v:rW} {t:List qc} {h:Hd} (r:Rl l pv hs ts i) (hc:decide (i<(l.length:Int))=true) (hB:l.length<pW) (hx:idx pv i=some v) (hn:h.n=t.length) :
    Rl l (pv.set (i:Int).toNat (rW.mk v.Vb v.own h v.U7 v.pU v.Vj v.Vk v.bh v.pZ v.Vi)) (hs++[h]) (ts++[t]) (IntKind.i64.wrap (i+1)):=by
  obtain ⟨⟨h0,e0,rfl,e1⟩,e2,rfl⟩:=r;have hk:=of_decide_eq_true hc
  have hlt:hs.length<l.length:=by omega
  have hg:(List.zipWith z5 l h0)[hs.length]?=some (z5 (l[hs.length]'hlt) (h0[hs.length]'(by omega))):=by rw [List.getElem?_zipWith,List.getElem?_eq_getElem hlt,List.getElem?_eq_getElem (by omega)]
  rw [qv,hg] at hx;cases Option.some.inj hx;refine ⟨⟨h0.set hs.length h,by rw [List.length_set,e0],?_,?_⟩,e2.snoc hn,?_⟩
  · rw [Int.toNat_natCast];apply List.ext_getElem? fun k=>?_
    by_cases hkk:hs.length=k
    · subst hkk;rw [List.getElem?_set_self (by rw [List.length_zipWith];omega),List.getElem?_zipWith,List.getElem?_set_self (by omega),List.getElem?_eq_getElem hlt];rfl
    · rw [List.getElem?_set_ne hkk,List.getElem?_zipWith,List.getElem?_zipWith,List.getElem?_set_ne hkk]
  · rw [List.length_append,List.length_cons,List.length_nil,Nat.zero_add,List.take_add_one,List.take_set_of_le (Nat.le_refl _),e1,List.getElem?_set,if_pos rfl,if_pos (by omega)];rfl
  · rw [qV (Nat.lt_trans hlt hB),List.length_append];rfl
theorem JV:∀ {l:List cd} {hs:List Hd},hs.length=l.length→(List.zipWith z5 l hs).map (·.Vd)=hs
  | [],[],_=>rfl
  | [],_::_,h=>by simp at h
  | _::_,[],h=>by simp at h
  | _::l,h::hs,k=>by
    show h::(List.zipWith z5 l hs).map (·.Vd)=h::hs
    rw [JV (by simpa using k)]
theorem LS:∀ {l:List cd} {hs:List Hd} {ts:List (List qc)},hs.length=l.length→wk hs ts→List.zipWith CZ (List.zipWith z5 l hs) ts=sO l ts
  | [],[],[],_,_=>rfl
  | [],[],_::_,_,h=>h.elim
  | [],_::_,_,h,_=>by simp at h
  | _::_,[],_,h,_=>by simp at h
  | _::_,_::_,[],_,h=>h.elim
  | p::l,h::hs,t::ts,k,e=>by
    show Aw p t::List.zipWith CZ (List.zipWith z5 l hs) ts=Aw p t::sO l ts
    rw [LS (by simpa using k) e.2]
theorem Rl.fin {l:List cd} {pv:List rW} {hs:List Hd} {ts:List (List qc)} {i:Int} (r:Rl l pv hs ts i) (hc:decide (i<(l.length:Int))=false):pv.map (·.Vd)=hs∧List.zipWith CZ pv ts=sO l ts∧ts.length=l.length:=by
  obtain ⟨⟨h0,e0,rfl,e1⟩,e2,rfl⟩:=r;have hk:=of_decide_eq_false hc
  have hle:hs.length≤h0.length:=by rw [← e1,List.length_take];omega
  have hh:h0=hs:=by rw [← e1,List.take_of_length_le (by omega)]
  subst hh;exact ⟨JV e0,LS e0 e2,by rw [← e2.len,e0]⟩
end Go.Kx
