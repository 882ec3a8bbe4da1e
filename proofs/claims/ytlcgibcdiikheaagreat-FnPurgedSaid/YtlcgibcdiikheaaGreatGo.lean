import Derived.Test.YtlcgibcdiikheaaGreatOwn
namespace Go.Kx
open Go Go.RowKit
set_option linter.unusedVariables false
set_option linter.unusedSimpArgs false
class j8 (P:Program) (t:TypeId) (a:outParam (Option Nat)):Prop where
  h:iY P t=some a
class jo (P:Program) (t:TypeId) (k:Nat) (off:outParam Nat) (a:outParam (Option Nat)):Prop where
  h:fo P t k=some (off,a)
class qJ (P:Program) (t:TypeId) (m:outParam Nat):Prop where
  h:oG P t=some m
class mb (P:Program) (t:TypeId) (ds:outParam TypeDesc):Prop where
  h:P.underlying t=some ds
class rq (P:Program) (t:TypeId) where
  z:Value
  h:zeroV P t=some z
inductive Nf {α:Type}:List α→List α→Prop
  | nil {l:List α} (h:l=[]):Nf l []
  | cons {l t m:List α} {a:α} (h:l=a::t) (k:Nf t m):Nf l (a::m)
theorem Nf.eq {α:Type}:∀ {l m:List α},Nf l m→l=m
  | _,_,.nil h=>h
  | _,_,.cons h k=>by rw [h,k.eq]
def tO:List (Nat×Value)→Nat→Option Value
  | [],_=>none
  | (d,v)::l,i=>bif Nat.beq i d then some v else tO l i
def jF (l:List (Nat×Value)):Operand→Option Value
  | .tmp t=>tO l t
  | .const v=>some v
  | .global g=>some (.pointer (some ⟨g,0,none⟩))
  | .func f=>some (.func (.func f) #[] #[])
theorem pY {e:Env}:∀ {l:List (Nat×Value)} {i:Nat} {v:Value},tO l i=some v→ij e l i=v
  | [],_,_,h=>by cases h
  | (d,u)::l,i,v,h=>by
    unfold tO at h;unfold ij jR;cases hb:Nat.beq i d
    · rw [hb] at h;exact pY h
    · rw [hb] at h;exact Option.some.inj h
theorem iP {e:Env} {l:List (Nat×Value)} {x:Operand} {v:Value} (h:jF l x=some v):ev (ij e l) x=v:=by
  cases x with
  | tmp t=>exact pY h
  | const u=>exact Option.some.inj h
  | global g=>exact Option.some.inj h
  | func f=>exact Option.some.inj h
def uz:Nat→List Value→List (Nat×Value)
  | _,[]=>[]
  | k,v::l=>(k,v)::uz (k+1) l
theorem xt:∀ (l:List Value) (k i:Nat),ij (fun _=>undef) (uz k l) i=if k≤i then l.getD (i - k) undef else undef
  | [],k,i=>by simp [uz,ij]
  | v::l,k,i=>by
    unfold uz ij jR;cases hb:Nat.beq i k
    · have hne:i ≠ k:=fun e=>by subst e;simp at hb
      rw [HX,xt l (k+1) i]
      by_cases h1:k+1≤i
      · rw [if_pos h1,if_pos (by omega),show i - k=(i - (k+1))+1 by omega];rfl
      · rw [if_neg h1,if_neg (by omega)]
    · have:=Nat.eq_of_beq_eq_true hb;subst this;simp
theorem EB (args:Array Value):xI args=ij (fun _=>undef) (uz 0 args.toList):=by
  funext i
  rw [xt];simp [xI,Array.getD_eq_getD_getElem?,List.getD_eq_getElem?_getD]
theorem gZ.fn {P:Program} {n:Nat} {w:World} {f:FuncId} {fn:Func} {c:Code} {args:Array Value} {K:Value→World→Prop} (hf:P.funcs[f]?=some fn)
    (h:∀ e,CW P n c (fun x e' w'=>(match x with | .ret=>True | .normal=>True | _=>False)∧∃ v,jM P fn.results e' w' v∧K v w') (ij e (uz 0 args.toList)) w) (hb:fn.body=some c:=by rfl) (hn:fn.ntmps=n:=by rfl) (ha:Nat.ble args.size n=true:=by rfl):gZ P f args w K :=
  gZ.of hf hb hn ha (EB args ▸ h _)
inductive mc (l:List (Nat×Value)):List Nat→List (Nat×Value)→Prop
  | nil:mc l [] []
  | cons {d:Nat} {v:Value} {ds:List Nat} {m:List (Nat×Value)} (h:tO l d=some v) (t:mc l ds m):mc l (d::ds) ((d,v)::m)
theorem mc.en {e:Env} {l:List (Nat×Value)}:∀ {ds:List Nat} {m:List (Nat×Value)},mc l ds m→En (ij e l) m
  | _,_,.nil=>trivial
  | _,_,.cons h t=>⟨pY h,t.en⟩
section
variable {P:Program} {n:Nat} {Q Q':jV} {e:Env} {l:List (Nat×Value)} {w w0:World} {F0:List Nat} {L:List Item} {ops:Array Oper} {rest:List Oper} {ty:TypeId} {pos:String} {aft:Array Edge} {d:Nat} {v:Value}
theorem oY {E:Env} (h:E=ij e l):jR E d v=ij e ((d,v)::l):=by subst h;rfl
theorem LW.nr {E:Env} (hE:E=ij e l) (h:LW P n ops Q rest (ij e ((d,v)::l)) w):LW P n ops Q rest (jR E d v) w:=by subst hE;exact h
theorem CW.nr {E:Env} {c:Code} (hE:E=ij e l) (h:CW P n c Q (ij e ((d,v)::l)) w):CW P n c Q (jR E d v) w:=by subst hE;exact h
theorem LW.fl (ds:List Nat) {E:Env} {m:List (Nat×Value)} (k:∀ e',LW P n ops Q rest (ij e' m) w) (hE:E=ij e l:=by repeat (first | (with_reducible exact rfl) | (with_reducible apply oY))) (h:mc l ds m:=by repeat (first | exact mc.nil | (apply mc.cons;rfl))):LW P n ops Q rest E w:=by subst hE;exact LW.fresh h.en k
theorem CW.fl (ds:List Nat) {E:Env} {m:List (Nat×Value)} {c:Code} (k:∀ e',CW P n c Q (ij e' m) w) (hE:E=ij e l:=by repeat (first | (with_reducible exact rfl) | (with_reducible apply oY))) (h:mc l ds m:=by repeat (first | exact mc.nil | (apply mc.cons;rfl))):CW P n c Q E w:=by subst hE;exact CW.fresh h.en k
theorem LW.mv {x:Operand} (hx:jF l x=some v) (hd:Nat.ble (d+1) n=true) (h:LW P n ops Q rest (ij e ((d,v)::l)) w):LW P n ops Q (⟨some d,.move x,ty,pos,aft,none⟩::rest) (ij e l) w :=
  LW.p (by simp [pv,iP hx]) hd h
theorem LW.as {x:Operand} (hx:jF l x=some v) (hd:Nat.ble (d+1) n=true) (h:LW P n ops Q rest (ij e ((d,v)::l)) w):LW P n ops Q (⟨some d,.assign x,ty,pos,aft,none⟩::rest) (ij e l) w :=
  LW.p (by simp [pv,iP hx]) hd h
theorem LW.bin {o:BinOp} {t u:TypeId} {x y:Operand} {k k':IntKind} {a b:Int} (hx:jF l x=some (.int k a)) (hy:jF l y=some (.int k' b)) (hv:(bif xT k k' then DK o k a b else none)=some v) (hd:Nat.ble (d+1) n=true)
    (h:LW P n ops Q rest (ij e ((d,v)::l)) w):LW P n ops Q (⟨some d,.binOp o t x y u,ty,pos,aft,none⟩::rest) (ij e l) w :=
  LW.p (by simp only [pv,iP hx,iP hy];exact hv) hd h
theorem LW.not {t:TypeId} {x:Operand} {b:Bool} (hx:jF l x=some (.bool b)) (hd:Nat.ble (d+1) n=true) (h:LW P n ops Q rest (ij e ((d,.bool (!b))::l)) w):LW P n ops Q (⟨some d,.unOp .not t x,ty,pos,aft,none⟩::rest) (ij e l) w :=
  LW.p (by simp [pv,iP hx]) hd h
theorem LW.neg {t:TypeId} {x:Operand} {k:IntKind} {a:Int} (hx:jF l x=some (.int k a)) (hd:Nat.ble (d+1) n=true) (h:LW P n ops Q rest (ij e ((d,.int k (k.wrap (0 - a)))::l)) w):LW P n ops Q (⟨some d,.unOp .neg t x,ty,pos,aft,none⟩::rest) (ij e l) w :=
  LW.p (by simp [pv,iP hx]) hd h
theorem LW.ext {x:Operand} {i:Nat} {vs:Array Value} (hx:jF l x=some (.tuple vs)) (hv:xl vs.toList i=some v) (hd:Nat.ble (d+1) n=true) (h:LW P n ops Q rest (ij e ((d,v)::l)) w):LW P n ops Q (⟨some d,.extract x i,ty,pos,aft,none⟩::rest) (ij e l) w :=
  LW.p (by simp only [pv,iP hx];exact hv) hd h
theorem LW.fa {t:TypeId} {x:Operand} {k off g o:Nat} {a:Option Nat} (hf:fo P t k=some (off,a)) (hx:jF l x=some (.pointer (some ⟨g,o,none⟩))) (hd:Nat.ble (d+1) n=true)
    (h:LW P n ops Q rest (ij e ((d,.pointer (some ⟨g,o+off,none⟩))::l)) w):LW P n ops Q (⟨some d,.fieldAddr t x k,ty,pos,aft,none⟩::rest) (ij e l) w:=LW.u (iI.fa hf (iP hx)) hd h
theorem LW.nc {x:Operand} {a:Addr} (hx:jF l x=some (.pointer (some a))) (hd:Nat.ble (d+1) n=true) (h:LW P n ops Q rest (ij e ((d,.pointer (some a))::l)) w):LW P n ops Q (⟨some d,.nilCheck x,ty,pos,aft,none⟩::rest) (ij e l) w:=LW.u (iI.nc (iP hx)) hd h
theorem LW.len {t el:TypeId} {x:Operand} {a:Option Addr} {m c:Nat} (ht:P.underlying t=some (.slice el)) (hx:jF l x=some (.slice a m c)) (hd:Nat.ble (d+1) n=true) (h:LW P n ops Q rest (ij e ((d,.int .i64 (m:Int))::l)) w) :
    LW P n ops Q (⟨some d,.call { callee:=.builtin .len,args:=#[x],argTypes:=#[t] },ty,pos,aft,none⟩::rest) (ij e l) w:=LW.u (iI.len ht (iP hx)) hd h
theorem LW.B3 {c a b:Operand} {t:Bool} (hc:jF l c=some (.bool t)) (ht:t=true) (ha:jF l a=some v) (hd:Nat.ble (d+1) n=true) (h:LW P n ops Q rest (ij e ((d,v)::l)) w):LW P n ops Q (⟨some d,.pick c a b,ty,pos,aft,none⟩::rest) (ij e l) w:=by
  refine LW.u (iI.DC (iP hc) ht) hd ?_;rw [iP ha];exact h
theorem LW.Bw {c a b:Operand} {t:Bool} (hc:jF l c=some (.bool t)) (ht:t=false) (ha:jF l b=some v) (hd:Nat.ble (d+1) n=true) (h:LW P n ops Q rest (ij e ((d,v)::l)) w):LW P n ops Q (⟨some d,.pick c a b,ty,pos,aft,none⟩::rest) (ij e l) w:=by
  refine LW.u (iI.Dx (iP hc) ht) hd ?_;rw [iP ha];exact h
theorem LW.ld {t bt:TypeId} {x:Operand} {g o:Nat} {cs:List Value} (hx:jF l x=some (.pointer (some ⟨g,o,none⟩))) (hS:St w0 F0 w L) (hm:∃ i:Nat,L[i]?=some (bx g bt cs)) (ht:iY P t=some none) (hv:sa cs o=some v) (hd:Nat.ble (d+1) n=true)
    (h:LW P n ops Q rest (ij e ((d,v)::l)) w):LW P n ops Q (⟨some d,.load t x,ty,pos,aft,none⟩::rest) (ij e l) w:=by
  obtain ⟨i,hi⟩:=hm;exact LW.Hk hS i hi ht (iP hx) hv hd h
theorem LW.B9 {t bt:TypeId} {x:Operand} {g o m:Nat} {cs:List Value} (hx:jF l x=some (.pointer (some ⟨g,o,none⟩))) (hS:St w0 F0 w L) (hm:∃ i:Nat,L[i]?=some (bx g bt cs)) (ht:iY P t=some (some m)) (hl:Nat.ble (o+m) cs.length=true) (hd:Nat.ble (d+1) n=true)
    {vs:List Value} (hn:Nf (oR cs o m) vs) (h:LW P n ops Q rest (ij e ((d,.agg vs.toArray)::l)) w):LW P n ops Q (⟨some d,.load t x,ty,pos,aft,none⟩::rest) (ij e l) w:=by
  obtain ⟨i,hi⟩:=hm;cases hn.eq;exact LW.GY hS i hi ht (iP hx) hl hd h
theorem LW.yes {op:Op} {dd:Option Tmp} {j q:Nat} {b t:Bool} (hd:(ops[j]?).bind (·.dst)=some q) (hv:tO l q=some (.bool t)) (ht:t=b) (h:LW P n ops Q (⟨dd,op,ty,pos,aft,none⟩::rest) (ij e l) w) :
    LW P n ops Q (⟨dd,op,ty,pos,aft,some (j,b)⟩::rest) (ij e l) w:=LW.gY (kO hd (pY hv) ht) h
theorem LW.no {op:Op} {j q:Nat} {b t:Bool} (hd:(ops[j]?).bind (·.dst)=some q) (hv:tO l q=some (.bool t)) (ht:t=!b) (hn:Nat.ble (d+1) n=true) (h:LW P n ops Q rest (ij e ((d,undef)::l)) w) :
    LW P n ops Q (⟨some d,op,ty,pos,aft,some (j,b)⟩::rest) (ij e l) w:=LW.gN (xO hd (pY hv) ht) hn h
theorem LW.BZ {t el:TypeId} {x y:Operand} {b o m' c m:Nat} {k:IntKind} {i:Int} (ht:P.underlying t=some (.slice el)) (hm:oG P el=some m) (hx:jF l x=some (.slice (some ⟨b,o,none⟩) m' c)) (hy:jF l y=some (.int k i)) (h0:0≤i) (h1:i<m') (hd:Nat.ble (d+1) n=true)
    (h:LW P n ops Q rest (ij e ((d,.pointer (some ⟨b,o+i.toNat * m,none⟩))::l)) w):LW P n ops Q (⟨some d,.indexAddr t x y,ty,pos,aft,none⟩::rest) (ij e l) w:=LW.u (iI.ix ht hm (iP hx) (iP hy) h0 h1) hd h
theorem LW.FB {op:Op} {j q:Nat} {b:Bool} (hd:(ops[j]?).bind (·.dst)=some q) (hv:tO l q=some undef) (hn:Nat.ble (d+1) n=true) (h:LW P n ops Q rest (ij e ((d,undef)::l)) w) :
    LW P n ops Q (⟨some d,op,ty,pos,aft,some (j,b)⟩::rest) (ij e l) w:=LW.gN (vW hd (pY hv)) hn h
def ju (P:Program) (n:Nat) (ops:Array Oper) (Q:jV) (fuel:Nat) (E:mE) (listed:Array Bool) (i d:Nat) (op:Op) (e:Env) (w:World):Prop :=
  jv ops listed i=true∧Nat.ble (d+1) n=true∧∃ v,((iI P (ev e) op v∧AW P n ops Q fuel E (listed.setIfInBounds i true) (jR e d v) w)∨∃ C,jb P (ev e) op C v∧C w∧AW P n ops Q fuel ((i,C)::E) (listed.setIfInBounds i true) (jR e d v) w)
def Cm (ops:Array Oper) (listed:Array Bool) (i:Nat):Bool :=
  !(jv ops listed i) || match ops[i]? with
    | some o=>match o.op with
      | .call _=>true
      | .store _ _ _=>true
      | .box _ _=>true
      | .alloc _=>true
      | .makeSlice _ _ _=>true
      | .buildSlice _ _ _=>true
      | _=>false
    | none=>false
def BC (ops:Array Oper) (listed:Array Bool) (b:Nat):Nat→Bool
  | 0=>true
  | k+1=>Cm ops listed (b+k)&&BC ops listed b k
inductive Nx:Array Bool→Nat→Prop
  | start (m:Nat):Nx (Array.replicate m false) 0
  | set (a:Array Bool) (j:Nat):Nx (a.setIfInBounds j true) (j+1)
section
variable {fuel:Nat} {E:mE} {listed:Array Bool} {i b:Nat} {op:Op}
theorem ju.on {g:Option (Nat×Bool)} (hi:ops[i]?=some ⟨some d,op,ty,pos,aft,g⟩) (hw:mz ops g e=true) (h:ju P n ops Q fuel E listed i d op e w):AW P n ops Q (fuel+1) E listed e w:=by
  obtain ⟨hok,hd,v,⟨hp,h⟩ | ⟨C,hl,hC,h⟩⟩:=h
  · exact AW.u hi hok hw hd hp h
  · exact AW.take hi hok hw hd hl hC h
theorem AW.Fo (h:AW P n ops Q fuel E listed e w):AW P n ops Q fuel E listed e w:=h
theorem AW.nr {E':Env} (hE:E'=ij e l) (h:AW P n ops Q fuel E listed (ij e ((d,v)::l)) w):AW P n ops Q fuel E listed (jR E' d v) w:=by subst hE;exact h
theorem AW.gN (k:Nat) (hx:Nx listed b) (hi:ops[b+k]?=some ⟨some d,op,ty,pos,aft,none⟩) (hsk:BC ops listed b k=true) (h:ju P n ops Q fuel E listed (b+k) d op (ij e l) w):AW P n ops Q (fuel+1) E listed (ij e l) w:=h.on hi rfl
theorem AW.gY (k:Nat) {j q:Nat} {t t':Bool} (hx:Nx listed b) (hi:ops[b+k]?=some ⟨some d,op,ty,pos,aft,some (j,t')⟩) (hsk:BC ops listed b k=true) (hq:(ops[j]?).bind (·.dst)=some q) (hv:tO l q=some (.bool t)) (ht:t=t') (h:ju P n ops Q fuel E listed (b+k) d op (ij e l) w):AW P n ops Q (fuel+1) E listed (ij e l) w:=h.on hi (kO hq (pY hv) ht)
theorem AW.g0 (k:Nat) {j q:Nat} {t t':Bool} (hx:Nx listed b) (hi:ops[b+k]?=some ⟨some d,op,ty,pos,aft,some (j,t')⟩) (hsk:BC ops listed b k=true) (hq:(ops[j]?).bind (·.dst)=some q) (hv:tO l q=some (.bool t)) (ht:t=!t') (hok:jv ops listed (b+k)=true) (hd:Nat.ble (d+1) n=true)
    (h:AW P n ops Q fuel E (listed.setIfInBounds (b+k) true) (ij e ((d,undef)::l)) w):AW P n ops Q (fuel+1) E listed (ij e l) w:=AW.no hi hok (xO hq (pY hv) ht) hd h
theorem AW.gU (k:Nat) {j q:Nat} {t':Bool} (hx:Nx listed b) (hi:ops[b+k]?=some ⟨some d,op,ty,pos,aft,some (j,t')⟩) (hsk:BC ops listed b k=true) (hq:(ops[j]?).bind (·.dst)=some q) (hv:tO l q=some undef) (hok:jv ops listed (b+k)=true) (hd:Nat.ble (d+1) n=true)
    (h:AW P n ops Q fuel E (listed.setIfInBounds (b+k) true) (ij e ((d,undef)::l)) w):AW P n ops Q (fuel+1) E listed (ij e l) w:=AW.no hi hok (vW hq (pY hv)) hd h
theorem ju.u (hp:iI P (ev (ij e l)) op v) (hd:Nat.ble (d+1) n=true) (hok:jv ops listed i=true) (h:AW P n ops Q fuel E (listed.setIfInBounds i true) (ij e ((d,v)::l)) w):ju P n ops Q fuel E listed i d op (ij e l) w:=⟨hok,hd,v,.inl ⟨hp,h⟩⟩
theorem ju.mv {x:Operand} (hx:jF l x=some v) (hd:Nat.ble (d+1) n=true) (hok:jv ops listed i=true) (h:AW P n ops Q fuel E (listed.setIfInBounds i true) (ij e ((d,v)::l)) w):ju P n ops Q fuel E listed i d (.move x) (ij e l) w:=.u (.p (by simp [pv,iP hx])) hd hok h
theorem ju.as {x:Operand} (hx:jF l x=some v) (hd:Nat.ble (d+1) n=true) (hok:jv ops listed i=true) (h:AW P n ops Q fuel E (listed.setIfInBounds i true) (ij e ((d,v)::l)) w):ju P n ops Q fuel E listed i d (.assign x) (ij e l) w:=.u (.p (by simp [pv,iP hx])) hd hok h
theorem ju.bin {o:BinOp} {t u:TypeId} {x y:Operand} {k k':IntKind} {a b:Int} (hx:jF l x=some (.int k a)) (hy:jF l y=some (.int k' b)) (hv:(bif xT k k' then DK o k a b else none)=some v) (hd:Nat.ble (d+1) n=true) (hok:jv ops listed i=true)
    (h:AW P n ops Q fuel E (listed.setIfInBounds i true) (ij e ((d,v)::l)) w):ju P n ops Q fuel E listed i d (.binOp o t x y u) (ij e l) w:=.u (.p (by simp only [pv,iP hx,iP hy];exact hv)) hd hok h
theorem ju.not {t:TypeId} {x:Operand} {b:Bool} (hx:jF l x=some (.bool b)) (hd:Nat.ble (d+1) n=true) (hok:jv ops listed i=true) (h:AW P n ops Q fuel E (listed.setIfInBounds i true) (ij e ((d,.bool (!b))::l)) w):ju P n ops Q fuel E listed i d (.unOp .not t x) (ij e l) w:=.u (.p (by simp [pv,iP hx])) hd hok h
theorem ju.neg {t:TypeId} {x:Operand} {k:IntKind} {a:Int} (hx:jF l x=some (.int k a)) (hd:Nat.ble (d+1) n=true) (hok:jv ops listed i=true) (h:AW P n ops Q fuel E (listed.setIfInBounds i true) (ij e ((d,.int k (k.wrap (0 - a)))::l)) w):ju P n ops Q fuel E listed i d (.unOp .neg t x) (ij e l) w:=.u (.p (by simp [pv,iP hx])) hd hok h
theorem ju.ext {x:Operand} {j:Nat} {vs:Array Value} (hx:jF l x=some (.tuple vs)) (hv:xl vs.toList j=some v) (hd:Nat.ble (d+1) n=true) (hok:jv ops listed i=true) (h:AW P n ops Q fuel E (listed.setIfInBounds i true) (ij e ((d,v)::l)) w):ju P n ops Q fuel E listed i d (.extract x j) (ij e l) w:=.u (.p (by simp only [pv,iP hx];exact hv)) hd hok h
theorem ju.fa {t:TypeId} {x:Operand} {k off g o:Nat} {a:Option Nat} (hf:fo P t k=some (off,a)) (hx:jF l x=some (.pointer (some ⟨g,o,none⟩))) (hd:Nat.ble (d+1) n=true) (hok:jv ops listed i=true)
    (h:AW P n ops Q fuel E (listed.setIfInBounds i true) (ij e ((d,.pointer (some ⟨g,o+off,none⟩))::l)) w):ju P n ops Q fuel E listed i d (.fieldAddr t x k) (ij e l) w:=.u (.fa hf (iP hx)) hd hok h
theorem ju.nc {x:Operand} {a:Addr} (hx:jF l x=some (.pointer (some a))) (hd:Nat.ble (d+1) n=true) (hok:jv ops listed i=true) (h:AW P n ops Q fuel E (listed.setIfInBounds i true) (ij e ((d,.pointer (some a))::l)) w):ju P n ops Q fuel E listed i d (.nilCheck x) (ij e l) w:=.u (.nc (iP hx)) hd hok h
theorem ju.len {t el:TypeId} {x:Operand} {a:Option Addr} {m c:Nat} (ht:P.underlying t=some (.slice el)) (hx:jF l x=some (.slice a m c)) (hd:Nat.ble (d+1) n=true) (hok:jv ops listed i=true) (h:AW P n ops Q fuel E (listed.setIfInBounds i true) (ij e ((d,.int .i64 (m:Int))::l)) w) :
    ju P n ops Q fuel E listed i d (.call { callee:=.builtin .len,args:=#[x],argTypes:=#[t] }) (ij e l) w:=.u (.len ht (iP hx)) hd hok h
theorem ju.B3 {c a b:Operand} {t:Bool} (hc:jF l c=some (.bool t)) (ht:t=true) (ha:jF l a=some v) (hd:Nat.ble (d+1) n=true) (hok:jv ops listed i=true) (h:AW P n ops Q fuel E (listed.setIfInBounds i true) (ij e ((d,v)::l)) w):ju P n ops Q fuel E listed i d (.pick c a b) (ij e l) w :=
  .u (iP ha ▸ iI.DC (iP hc) ht) hd hok h
theorem ju.Bw {c a b:Operand} {t:Bool} (hc:jF l c=some (.bool t)) (ht:t=false) (ha:jF l b=some v) (hd:Nat.ble (d+1) n=true) (hok:jv ops listed i=true) (h:AW P n ops Q fuel E (listed.setIfInBounds i true) (ij e ((d,v)::l)) w):ju P n ops Q fuel E listed i d (.pick c a b) (ij e l) w :=
  .u (iP ha ▸ iI.Dx (iP hc) ht) hd hok h
theorem ju.BZ {t el:TypeId} {x y:Operand} {b' o m' c m:Nat} {k:IntKind} {j:Int} (ht:P.underlying t=some (.slice el)) (hm:oG P el=some m) (hx:jF l x=some (.slice (some ⟨b',o,none⟩) m' c)) (hy:jF l y=some (.int k j)) (h0:0≤j) (h1:j<m') (hd:Nat.ble (d+1) n=true) (hok:jv ops listed i=true)
    (h:AW P n ops Q fuel E (listed.setIfInBounds i true) (ij e ((d,.pointer (some ⟨b',o+j.toNat * m,none⟩))::l)) w):ju P n ops Q fuel E listed i d (.indexAddr t x y) (ij e l) w:=ju.u (iI.ix ht hm (iP hx) (iP hy) h0 h1) hd hok h
theorem ju.ld {t bt:TypeId} {x:Operand} {g o:Nat} {cs:List Value} (hx:jF l x=some (.pointer (some ⟨g,o,none⟩))) (hS:St w0 F0 w L) (hm:∃ i:Nat,L[i]?=some (bx g bt cs)) (ht:iY P t=some none) (hv:sa cs o=some v) (hd:Nat.ble (d+1) n=true) (hok:jv ops listed i=true)
    (h:AW P n ops Q fuel ((i,fun w=>w.heap[g]?=some (.cells cs.toArray bt (0,0)))::E) (listed.setIfInBounds i true) (ij e ((d,v)::l)) w):ju P n ops Q fuel E listed i d (.load t x) (ij e l) w:=by
  obtain ⟨j,hj⟩:=hm;exact ⟨hok,hd,v,.inr ⟨_,jb.box (bt:=bt) (fr:=(0,0)) ht (iP hx) hv,St.cell (h:=hS) (i:=j) hj,h⟩⟩
theorem ju.B9 {t bt:TypeId} {x:Operand} {g o m:Nat} {cs:List Value} (hx:jF l x=some (.pointer (some ⟨g,o,none⟩))) (hS:St w0 F0 w L) (hm:∃ i:Nat,L[i]?=some (bx g bt cs)) (ht:iY P t=some (some m)) (hl:Nat.ble (o+m) cs.length=true) (hd:Nat.ble (d+1) n=true) {vs:List Value} (hn:Nf (oR cs o m) vs) (hok:jv ops listed i=true)
    (h:AW P n ops Q fuel ((i,fun w=>w.heap[g]?=some (.cells cs.toArray bt (0,0)))::E) (listed.setIfInBounds i true) (ij e ((d,.agg vs.toArray)::l)) w):ju P n ops Q fuel E listed i d (.load t x) (ij e l) w:=by
  obtain ⟨j,hj⟩:=hm;cases hn.eq;exact ⟨hok,hd,_,.inr ⟨_,jb.ER (bt:=bt) (fr:=(0,0)) ht (iP hx) hl,St.cell (h:=hS) (i:=j) hj,h⟩⟩
end
theorem LW.Gz {r:List Oper} {o:Oper} (h:LW P n ops Q (o::r) e w):LW P n ops Q (o::r) e w:=h
theorem LW.ex {r:List Oper} {o:Oper} (hr:rest=o::r) (h:LW P n ops Q (o::r) e w):LW P n ops Q rest e w:=by subst hr;exact h
theorem Dz {id:Nat} (h:Q .normal e w):yY id Q (.exit id) e w:=by
  show (bif Nat.beq id id then Q .normal e w else Q (.exit id) e w)
  rw [Nat.beq_refl];exact h
theorem DQ {id id':Nat} (hn:Nat.beq id' id=false) (h:Q (.exit id') e w):yY id Q (.exit id') e w:=by
  show (bif Nat.beq id' id then Q .normal e w else Q (.exit id') e w)
  rw [hn];exact h
theorem DD {id:Nat} (h:Q .normal e w):yY id Q .normal e w:=h
theorem DS {id:Nat} (h:Q .ret e w):yY id Q .ret e w:=h
theorem DB {M:Env→World→Prop} (h:M e w):uh M Q .normal e w:=h
theorem DW {M:Env→World→Prop} (h:Q .ret e w):uh M Q .ret e w:=h
theorem DV {id:Nat} {M:Env→World→Prop} (h:Q (.exit id) e w):uh M Q (.exit id) e w:=h
theorem LW.st {E:Env} {t bt:TypeId} {x y:Operand} {a:Option Nat} {g o:Nat} {cs vs cs':List Value} {L':List Item} (hS:St w0 F0 w L) (i:Nat) (h:∀ w':World,St w0 F0 w' L'→LW P n ops Q rest (ij e l) w')
    (hE:E=ij e l:=by repeat (first | (with_reducible exact rfl) | (with_reducible apply oY))) (hx:jF l x=some (.pointer (some ⟨g,o,none⟩)):=by rfl) (hi:L[i]?=some (bx g bt cs):=by rfl) (ht:iY P t=some a:=by exact j8.h) (hy:jF l y=some v:=by rfl)
    (hv:Nf v.cells.toList vs:=by repeat (first | ((with_reducible apply Nf.cons);rfl) | ((with_reducible apply Nf.nil);rfl))) (hm:vs.length=a.getD 1:=by rfl) (hl:Nat.ble (o+vs.length) cs.length=true:=by rfl) (h1:vs.all (·.oneCell')=true:=by rfl) (hc:Nf (sv cs o vs) cs':=by repeat (first | ((with_reducible apply Nf.cons);rfl) | ((with_reducible apply Nf.nil);rfl))) (hL:Nf (L.set i (bx g bt cs')) L':=by repeat (first | ((with_reducible apply Nf.cons);rfl) | ((with_reducible apply Nf.nil);rfl))) :
    LW P n ops Q (⟨none,.store t x y,ty,pos,aft,none⟩::rest) E w:=by
  subst hE;cases hv.eq;cases hc.eq;cases hL.eq;exact LW.Fp hS i hi ht (iP hx) (by rw [iP hy]) hm hl h1 fun w' hS' _=>h w' hS'
theorem LW.bo {E:Env} {t:TypeId} {x:Operand} {cs:List Value} (hS:St w0 F0 w L) (h:∀ (g:Nat) (w':World),St w0 F0 w' (bx g t cs::L)→LW P n ops Q rest (ij e ((d,.pointer (some ⟨g,0,none⟩))::l)) w')
    (hE:E=ij e l:=by repeat (first | (with_reducible exact rfl) | (with_reducible apply oY))) (hx:jF l x=some v:=by rfl) (hv:Nf v.cells.toList cs:=by repeat (first | ((with_reducible apply Nf.cons);rfl) | ((with_reducible apply Nf.nil);rfl))) (hd:Nat.ble (d+1) n=true:=by rfl):LW P n ops Q (⟨some d,.box t x,ty,pos,aft,none⟩::rest) E w:=by
  subst hE;cases hv.eq;exact LW.box (by rw [iP hx]) hS hd fun g w' hS' _=>h g w' hS'
theorem LW.al {E:Env} {t:TypeId} {cs:List Value} [z:rq P t] (hS:St w0 F0 w L) (h:∀ (g:Nat) (w':World),St w0 F0 w' (bx g t cs::L)→LW P n ops Q rest (ij e ((d,.pointer (some ⟨g,0,none⟩))::l)) w')
    (hE:E=ij e l:=by repeat (first | (with_reducible exact rfl) | (with_reducible apply oY))) (hv:Nf z.z.cells.toList cs:=by repeat (first | ((with_reducible apply Nf.cons);rfl) | ((with_reducible apply Nf.nil);rfl))) (hd:Nat.ble (d+1) n=true:=by rfl):LW P n ops Q (⟨some d,.alloc t,ty,pos,aft,none⟩::rest) E w:=by
  subst hE;cases hv.eq;exact LW.alloc z.h hS hd fun g w' hS' _=>h g w' hS'
theorem LW.se {α:Type} [gT α] {E:Env} {t:TypeId} {x y:Operand} {av:Option Nat} {g o0 off c:Nat} {l q:List α} {k:Int} {z z':α} {vs:Array Value} (o:Nat) (hS:St w0 F0 w L) (i:Nat) (hk:idx l k=some z) (hq:some (l.set k.toNat z')=some q)
    (h:∀ w':World,St w0 F0 w' (L.set i (sl (some ⟨g,o0,none⟩) c q))→LW P n ops Q rest E w')
    (hi:L[i]?=some (sl (some ⟨g,o0,none⟩) c l):=by rfl) (hx:ev E x=.pointer (some ⟨g,off,none⟩):=by rfl) (hy:(ev E y).cells=vs:=by rfl) (hoff:off=o0+k.toNat * gT.sz α+o:=by rfl) (ht:iY P t=some av:=by exact j8.h)
    (hm:vs.size=av.getD 1:=by rfl) (h1:vs.toList.all (·.oneCell')=true:=by rfl) (hold:Nat.ble (o+vs.size) (gT.sz α)=true:=by rfl)
    (hM:∀ (w:World) (cs:List Value) (F G:List Nat),gT.own w cs F z→iv [] w G→∃ F',gT.own w (cs.take o++vs.toList++cs.drop (o+vs.toList.length)) F' z'∧(∀ b,b ∈ F'→b ∈ F∨b ∈ G)∧(F.Nodup→G.Nodup→(∀ b,b ∈ F→b ∉ G)→F'.Nodup)):LW P n ops Q (⟨none,.store t x y,ty,pos,aft,none⟩::rest) E w :=
  LW.vR (M:=[]) (L:=L) hS hi hk ht hx hoff hy hm h1 hold hM fun w' hS' _=>h w' (by rwa [Option.some.inj hq] at hS')
theorem tG {α:Type} [gT α] {z z':α} {vs:Array Value} (hv:∀ w:World,gT.own w vs.toList [] z':=by exact fun _=>⟨rfl,rfl⟩):∀ (w:World) (cs:List Value) (F G:List Nat),gT.own w cs F z→iv [] w G→∃ F',gT.own w (cs.take 0++vs.toList++cs.drop (0+vs.toList.length)) F' z'∧(∀ b,b ∈ F'→b ∈ F∨b ∈ G)∧(F.Nodup→G.Nodup→(∀ b,b ∈ F→b ∉ G)→F'.Nodup) :=
  whole (fun w G hG=>by cases (show G=[] from hG);exact hv w)
theorem lT {a:Item} {l:List Item}:∃ i:Nat,(a::l)[i]?=some a:=⟨0,rfl⟩
theorem lV {a b:Item} {l:List Item} (h:∃ i:Nat,l[i]?=some a):∃ i:Nat,(b::l)[i]?=some a:=h.elim fun i hi=>⟨i+1,hi⟩
theorem CW.jn (ds is:List Nat) (xs:List (Nat×Value)) {E:Env} {m mm:List (Nat×Value)} {L':List Item} {c:Code} (hS:St w0 F0 w L)
    (hE:E=ij e l:=by repeat (first | (with_reducible exact rfl) | (with_reducible apply oY))) (hm:mc l ds m:=by repeat (first | exact mc.nil | (apply mc.cons;rfl))) (hmm:Nf (m++xs) mm:=by repeat (first | ((with_reducible apply Nf.cons);rfl) | ((with_reducible apply Nf.nil);rfl))) (hL:Nf ((kN L is).getD []) L':=by repeat (first | ((with_reducible apply Nf.cons);rfl) | ((with_reducible apply Nf.nil);rfl)))
    (h1:CW P n c (uh (fun e' wb=>En e' mm∧St w0 F0 wb L') Q) E w) (h2:∀ e' wb,St w0 F0 wb L'→Q .normal (ij e' mm) wb):CW P n c Q E w :=
  CW.cut _ h1 fun e' wb ⟨hE',hS'⟩=>by obtain ⟨e2,rfl⟩:=hE'.out;exact h2 e2 wb hS'
section
variable {σ β:Type} {c:Code} {E:Env} {m:List (Nat×Value)} {g gb:σ→List (Nat×Value)} {L':List Item} {N:Nat} {init:σ}
abbrev RT (P:Program) (fr:Array ResultVar) (V:β→Value) (w0:World) (F0:List Nat) (r:β) (x:Exit) (e:Env) (w:World):Prop:=x=.ret∧∃ u,u=r∧∃ v,jM P fr e w v∧v=V u∧St w0 F0 w []
theorem CW.lb (ds is bs:List Nat) (kx:Nat) (f:σ→List (Nat×Value)) {body:σ→Option (σ⊕σ)} {o:σ} (hS:St w0 F0 w L) (ho:Kx.iter body N init=some o)
    (hE:E=ij e l:=by repeat (first | (with_reducible exact rfl) | (with_reducible apply oY))) (hm:mc l ds m:=by repeat (first | exact mc.nil | (apply mc.cons;rfl))) (hg:∀ s,Nf (m++f s) (g s):=by intro s;repeat (first | ((with_reducible apply Nf.cons);rfl) | ((with_reducible apply Nf.nil);rfl))) (hgb:∀ s,mc (g s) bs (gb s):=by intro s;repeat (first | exact mc.nil | (apply mc.cons;rfl))) (hL:Nf ((kN L is).getD []) L':=by repeat (first | ((with_reducible apply Nf.cons);rfl) | ((with_reducible apply Nf.nil);rfl)))
    (h0:En (ij e l) (g init):=by repeat (first | exact trivial | (refine ⟨rfl,?_⟩))) (hp:kN L is=some L':=by rfl) (hn:m3 is=true:=by rfl)
    (hb:∀ (s:σ) (e':Env) (wb:World) (o':σ⊕σ),St w0 F0 wb L'→body s=some o'→CW P n c (fun x e w'=>match o' with
      | .inl s'=>x=.normal∧En e (g s')∧St w0 F0 w' L'
      | .inr r=>(match x with | .normal=>False | _=>True)∧x=.exit kx∧En e (gb r)∧St w0 F0 w' L') (ij e' (g s)) wb) :
    CW P n (.loop c) (fun x e wb=>x=.exit kx∧En e (gb o)∧St w0 F0 wb L') E w:=by
  subst hE
  exact CW.iter (fun s e wb=>En e (g s)∧St w0 F0 wb L') (fun r x e wb=>x=.exit kx∧En e (gb r)∧St w0 F0 wb L')
    (fun s e' wb o' ⟨hE',hS'⟩ hbd=>by obtain ⟨e2,rfl⟩:=hE'.out;exact (hb s e2 wb o' hS' hbd).mono fun x e w hq=>by rcases o' with _ | _<;>exact hq) N init _ w o ⟨h0,hS.pick is hp hn⟩ ho
theorem CW.lx (ds is bs:List Nat) (kx:Nat) (f:σ→List (Nat×Value)) (T:β→Exit→Env→World→Prop) {body:σ→Option (σ⊕(σ⊕β))} {o:σ⊕β} (hS:St w0 F0 w L) (ho:Kx.iter body N init=some o)
    (hE:E=ij e l:=by repeat (first | (with_reducible exact rfl) | (with_reducible apply oY))) (hm:mc l ds m:=by repeat (first | exact mc.nil | (apply mc.cons;rfl))) (hg:∀ s,Nf (m++f s) (g s):=by intro s;repeat (first | ((with_reducible apply Nf.cons);rfl) | ((with_reducible apply Nf.nil);rfl))) (hgb:∀ s,mc (g s) bs (gb s):=by intro s;repeat (first | exact mc.nil | (apply mc.cons;rfl))) (hL:Nf ((kN L is).getD []) L':=by repeat (first | ((with_reducible apply Nf.cons);rfl) | ((with_reducible apply Nf.nil);rfl)))
    (h0:En (ij e l) (g init):=by repeat (first | exact trivial | (refine ⟨rfl,?_⟩))) (hp:kN L is=some L':=by rfl) (hn:m3 is=true:=by rfl)
    (hb:∀ (s:σ) (e':Env) (wb:World) (o':σ⊕(σ⊕β)),St w0 F0 wb L'→body s=some o'→CW P n c (fun x e w'=>match o' with
      | .inl s'=>x=.normal∧En e (g s')∧St w0 F0 w' L'
      | .inr r=>(match x with | .normal=>False | _=>True)∧match r with | .inl b=>x=.exit kx∧En e (gb b)∧St w0 F0 w' L' | .inr r=>T r x e w') (ij e' (g s)) wb) :
    CW P n (.loop c) (fun x e wb=>match o with | .inl b=>x=.exit kx∧En e (gb b)∧St w0 F0 wb L' | .inr r=>T r x e wb) E w:=by
  subst hE
  exact (CW.iter (fun s e wb=>En e (g s)∧St w0 F0 wb L') (fun r x e wb=>match r with | .inl b=>x=.exit kx∧En e (gb b)∧St w0 F0 wb L' | .inr r=>T r x e wb)
    (fun s e' wb o' ⟨hE',hS'⟩ hbd=>by obtain ⟨e2,rfl⟩:=hE'.out;exact (hb s e2 wb o' hS' hbd).mono fun x e w hq=>by rcases o' with _ | (_ | _)<;>exact hq) N init _ w o ⟨h0,hS.pick is hp hn⟩ ho).mono fun x e w hq=>by rcases o with _ | _<;>exact hq
end
theorem CW.it {σ ρ:Type} {c:Code} {body:σ→Option (σ⊕ρ)} {N:Nat} {s0:σ} {r:ρ} {Q':jV} (ho:Kx.iter body N s0=some r) (R:σ→Env→World→Prop) (Q:ρ→jV)
    (hb:∀ (s:σ) (e:Env) (w:World) (o:σ⊕ρ),R s e w→body s=some o→CW P n c (fun x e' w'=>match o with
      | .inl s'=>x=.normal∧R s' e' w'
      | .inr r=>(match x with | .normal=>False | _=>True)∧Q r x e' w') e w) (hR:R s0 e w) (k:∀ x e w,Q r x e w→Q' x e w):CW P n (.loop c) Q' e w :=
  CW.mono (CW.iter R Q hb N s0 e w r hR ho) k
theorem CW.ie {σ:Type} {c:Code} {body:σ→Option (σ⊕σ)} {N:Nat} {s0 r:σ} {Q':jV} (ho:Kx.iter body N s0=some r) (kx:Nat) (R:σ→Env→World→Prop)
    (hb:∀ (s:σ) (e:Env) (w:World) (o:σ⊕σ),R s e w→body s=some o→CW P n c (fun x e' w'=>match o with
      | .inl s'=>x=.normal∧R s' e' w'
      | .inr r=>(match x with | .normal=>False | _=>True)∧x=.exit kx∧R r e' w') e w) (hR:R s0 e w) (k:∀ e w,R r e w→Q' (.exit kx) e w):CW P n (.loop c) Q' e w :=
  CW.mono (CW.iter R (fun r x e w=>x=.exit kx∧R r e w) (fun s e w o h1 h2=>CW.mono (hb s e w o h1 h2) fun x e w h=>by cases o<;>exact h) N s0 e w r hR ho) (fun x e w h=>by obtain ⟨rfl,h⟩:=h;exact k e w h)
def CR (P:Program) (n:Nat) (c:Code) (Q:jV) (N:Nat) (e:Env) (w:World):Prop:=∀ a,Is a n e→Code.rounds P c (lift n Q) N a w
theorem CR.mono {c:Code} {N:Nat} {Q Q':jV} (h:CR P n c Q N e w) (hq:∀ x e w,Q x e w→Q' x e w):CR P n c Q' N e w:=by
  have key:∀ (N:Nat) (a:Act) (w:World),Code.rounds P c (lift n Q) N a w→Code.rounds P c (lift n Q') N a w:=by
    intro N
    induction N with
    | zero=>intro a w h;exact h
    | succ N ih =>
      intro a w h;rw [rounds_succ] at h ⊢;refine Code.wp_mono ?_ h;intro x a' w' h
      cases x with
      | normal=>exact ih a' w' h
      | _=>obtain ⟨hc,e',he',hq'⟩:=h;exact ⟨hc,e',he',hq _ _ _ hq'⟩
  exact fun a ha=>key N a w (h a ha)
theorem CR.iter {σ ρ:Type} {c:Code} {body:σ→Option (σ⊕ρ)} (R:σ→Env→World→Prop) (Q:ρ→jV)
    (hb:∀ (s:σ) (e:Env) (w:World) (o:σ⊕ρ),R s e w→body s=some o→CW P n c (fun x e' w'=>match o with
      | .inl s'=>x=.normal∧R s' e' w'
      | .inr r=>(match x with | .normal=>False | _=>True)∧Q r x e' w') e w)
    (N:Nat) (s:σ) (e:Env) (w:World) (r:ρ) (hR:R s e w) (h:Kx.iter body N s=some r):CR P n c (Q r) N e w:=by
  have key:∀ (N:Nat) (s:σ) (e:Env) (w:World),R s e w→Kx.iter body N s=some r→∀ a,Is a n e→Code.rounds P c (lift n (Q r)) N a w:=by
    intro N
    induction N with
    | zero=>intro s e w _ h;cases h
    | succ N ih =>
      intro s e w hR h a ha;obtain ⟨o,ho,h2⟩:=rT h;rw [rounds_succ];refine Code.wp_mono ?_ (hb s e w o hR ho a ha);rintro x a' w' ⟨hc,e',he',hq⟩
      cases o with
      | inl s' =>
        obtain ⟨rfl,hR'⟩:=hq;exact ih s' e' w' hR' h2 a' he'
      | inr r' =>
        cases h2
        cases x with
        | normal=>exact hq.1.elim
        | _=>exact ⟨hc,e',he',hq.2⟩
  exact fun a ha=>key N s e w hR h a ha
theorem fj {R:Value→Prop} {u:Value} (hS:St w0 F0 w L) (hR:R u:=by exact jM.one (hP.t rfl)):∃ v,R v∧v=u∧St w0 F0 w []:=⟨u,hR,rfl,hS.pick [] rfl rfl⟩
theorem fi {A:Prop} {R:Value→Prop} {u:Value} (hS:St w0 F0 w L) (hA:A:=by exact trivial) (hR:R u:=by exact jM.one (hP.t rfl)):A∧∃ v,R v∧v=u∧St w0 F0 w []:=⟨hA,fj hS hR⟩
theorem St.lf (hS:St w0 F0 w L) (is js:List Nat) {L1 L2:List Item} (h1:Nf ((kN L is).getD []) L1:=by repeat (first | ((with_reducible apply Nf.cons);rfl) | ((with_reducible apply Nf.nil);rfl))) (h2:Nf ((kN L js).getD []) L2:=by repeat (first | ((with_reducible apply Nf.cons);rfl) | ((with_reducible apply Nf.nil);rfl))) (hp:kN L (is++js)=some (L1++L2):=by rfl) (hn:m3 (is++js)=true:=by rfl):∃ F,lW w0 F0 w L1 L2 F:=(hS.pick (is++js) hp hn).Fs
theorem oi {α:Type} {a b:α} (h:some a=some b):a=b:=Option.some.inj h
theorem LW.cl {f:FuncId} {as:Array Operand} {ts:Array TypeId} {al:List Value} {K:Value→World→Prop} (q:gZ P f al.toArray w K) (h:∀ v w',K v w'→LW P n ops Q rest (jR e d v) w')
    (hp:ra P f=true:=by kernel_rfl) (hd:Nat.ble (d+1) n=true:=by rfl) (hargs:as.toList.map (ev e)=al:=by rfl) :
    LW P n ops Q (⟨some d,.call { callee:=.value (.func f),args:=as,argTypes:=ts },ty,pos,aft,none⟩::rest) e w:=LW.call hp hd hargs (gZ.mono q h)
theorem LW.c0 {f:FuncId} {as:Array Operand} {ts:Array TypeId} {al:List Value} {u:Value} (q:gZ P f al.toArray w fun v w'=>v=u∧St w [] w' []) (hS:St w0 F0 w L) (h:∀ w',St w0 F0 w' L→LW P n ops Q rest (jR e d u) w')
    (hp:ra P f=true:=by kernel_rfl) (hd:Nat.ble (d+1) n=true:=by rfl) (hargs:as.toList.map (ev e)=al:=by rfl) :
    LW P n ops Q (⟨some d,.call { callee:=.value (.func f),args:=as,argTypes:=ts },ty,pos,aft,none⟩::rest) e w :=
  LW.cl q (fun v w' ⟨h1,h2⟩=>by subst h1;exact h w' (by simpa using hS.add h2)) hp hd hargs
theorem gI {A B:Prop} (a:A) (f:(Unit→A)→B:=by
    intro a
    (first
      | ((with_reducible apply ju.mv);rfl;rfl;(decide +kernel))
      | ((with_reducible apply ju.fa);(exact jo.h);rfl;rfl;(decide +kernel))
      | ((with_reducible apply ju.ld);rfl;assumption;(repeat (first | exact lT | apply lV));(exact j8.h);rfl;rfl;(decide +kernel))
      | ((with_reducible apply ju.bin);rfl;rfl;rfl;rfl;(decide +kernel))
      | ((with_reducible apply ju.B3);rfl;(first | assumption | rfl);rfl;rfl;(decide +kernel))
      | ((with_reducible apply ju.Bw);rfl;(first | assumption | rfl);rfl;rfl;(decide +kernel))
      | ((with_reducible apply ju.as);rfl;rfl;(decide +kernel))
      | ((with_reducible apply ju.B9);rfl;assumption;(repeat (first | exact lT | apply lV));(exact j8.h);rfl;rfl;(repeat (first | ((with_reducible apply Nf.cons);rfl) | ((with_reducible apply Nf.nil);rfl)));(decide +kernel))
      | ((with_reducible apply ju.len);(exact mb.h);rfl;rfl;(decide +kernel))
      | ((with_reducible apply ju.BZ);(exact mb.h);(exact qJ.h);rfl;rfl;assumption;assumption;rfl;(decide +kernel))
      | ((with_reducible apply ju.ext);rfl;rfl;rfl;(decide +kernel))
      | ((with_reducible apply ju.not);rfl;rfl;(decide +kernel))
      | ((with_reducible apply ju.neg);rfl;rfl;(decide +kernel))
      | ((with_reducible apply ju.nc);rfl;rfl;(decide +kernel)))
    exact a ()):B:=f fun _=>a
theorem gA {A B:Prop} (a:A) (f:(Unit→A)→B:=by
    intro a
    with_reducible apply AW.Fo
    (first
      | ((apply AW.gN 0);(first | exact Nx.set _ _ | exact Nx.start _);rfl;rfl;refine gI ?_)
      | ((apply AW.gY 0);(first | exact Nx.set _ _ | exact Nx.start _);rfl;rfl;rfl;rfl;(first | assumption | rfl);refine gI ?_)
      | ((apply AW.g0 0);(first | exact Nx.set _ _ | exact Nx.start _);rfl;rfl;rfl;rfl;(first | assumption | rfl);(decide +kernel);rfl)
      | ((apply AW.gU 0);(first | exact Nx.set _ _ | exact Nx.start _);rfl;rfl;rfl;rfl;(decide +kernel);rfl)
      | ((apply AW.gN 1);(first | exact Nx.set _ _ | exact Nx.start _);rfl;(decide +kernel);refine gI ?_)
      | ((apply AW.gY 1);(first | exact Nx.set _ _ | exact Nx.start _);rfl;(decide +kernel);rfl;rfl;(first | assumption | rfl);refine gI ?_)
      | ((apply AW.g0 1);(first | exact Nx.set _ _ | exact Nx.start _);rfl;(decide +kernel);rfl;rfl;(first | assumption | rfl);(decide +kernel);rfl)
      | ((apply AW.gU 1);(first | exact Nx.set _ _ | exact Nx.start _);rfl;(decide +kernel);rfl;rfl;(decide +kernel);rfl)
      | ((apply AW.gN 2);(first | exact Nx.set _ _ | exact Nx.start _);rfl;(decide +kernel);refine gI ?_)
      | ((apply AW.gY 2);(first | exact Nx.set _ _ | exact Nx.start _);rfl;(decide +kernel);rfl;rfl;(first | assumption | rfl);refine gI ?_)
      | ((apply AW.g0 2);(first | exact Nx.set _ _ | exact Nx.start _);rfl;(decide +kernel);rfl;rfl;(first | assumption | rfl);(decide +kernel);rfl)
      | ((apply AW.gU 2);(first | exact Nx.set _ _ | exact Nx.start _);rfl;(decide +kernel);rfl;rfl;(decide +kernel);rfl)
      | ((apply AW.done);(decide +kernel)))
    exact a ()):B:=f fun _=>a
theorem go {A B:Prop} (a:A) (f:(Unit→A)→B:=by
    intro a
    repeat (first
      | ((with_reducible apply LW.nr);(repeat first | (with_reducible exact rfl) | (with_reducible apply oY)))
      | ((with_reducible apply LW.yes);rfl;rfl;(first | assumption | rfl))
      | ((with_reducible apply LW.no);rfl;rfl;(first | assumption | rfl);rfl)
      | ((with_reducible apply LW.mv);rfl;rfl)
      | ((with_reducible apply LW.fa);(exact jo.h);rfl;rfl)
      | ((with_reducible apply LW.ld);rfl;assumption;(repeat (first | exact lT | apply lV));(exact j8.h);rfl;rfl)
      | ((with_reducible apply LW.bin);rfl;rfl;rfl;rfl)
      | ((with_reducible apply LW.B3);rfl;(first | assumption | rfl);rfl;rfl)
      | ((with_reducible apply LW.Bw);rfl;(first | assumption | rfl);rfl;rfl)
      | ((with_reducible apply LW.as);rfl;rfl)
      | ((with_reducible apply LW.B9);rfl;assumption;(repeat (first | exact lT | apply lV));(exact j8.h);rfl;rfl;(repeat (first | ((with_reducible apply Nf.cons);rfl) | ((with_reducible apply Nf.nil);rfl))))
      | ((with_reducible apply LW.len);(exact mb.h);rfl;rfl)
      | ((with_reducible apply LW.BZ);(exact mb.h);(exact qJ.h);rfl;rfl;assumption;assumption;rfl)
      | ((with_reducible apply LW.FB);rfl;rfl;rfl)
      | ((with_reducible apply LW.ext);rfl;rfl;rfl)
      | ((with_reducible apply LW.not);rfl;rfl)
      | ((with_reducible apply LW.neg);rfl;rfl)
      | with_reducible apply LW.nil
      | ((with_reducible apply CW.nr);(repeat first | (with_reducible exact rfl) | (with_reducible apply oY)))
      | with_reducible apply CW.seq
      | with_reducible apply DB
      | with_reducible apply Dz
      | with_reducible apply DD
      | with_reducible apply DS
      | with_reducible apply DV
      | with_reducible apply DW
      | ((with_reducible apply DQ);(exact rfl))
      | with_reducible apply CW.region
      | with_reducible apply CW.skip
      | with_reducible apply CW.block
      | with_reducible apply CW.exit
      | (with_reducible apply CW.ret)
      | ((with_reducible apply AW.nr);(repeat first | (with_reducible exact rfl) | (with_reducible apply oY)))
      | refine gA ?_
      | ((fail_if_success (with_reducible apply LW.Gz));(with_reducible apply LW.ex);rfl))
    exact a ()):B:=f fun _=>a
theorem gs {A B:Prop} (a:A) (f:(Unit→A)→B:=by
    intro a
    repeat (first
      | ((with_reducible apply LW.nr);(repeat first | (with_reducible exact rfl) | (with_reducible apply oY)))
      | ((with_reducible apply LW.yes);rfl;rfl;(first | assumption | rfl))
      | ((with_reducible apply LW.no);rfl;rfl;(first | assumption | rfl);rfl)
      | ((with_reducible apply LW.mv);rfl;rfl)
      | ((with_reducible apply LW.fa);(exact jo.h);rfl;rfl)
      | ((with_reducible apply LW.ld);rfl;assumption;(repeat (first | exact lT | apply lV));(exact j8.h);rfl;rfl)
      | ((with_reducible apply LW.bin);rfl;rfl;rfl;rfl)
      | ((with_reducible apply LW.B3);rfl;(first | assumption | rfl);rfl;rfl)
      | ((with_reducible apply LW.Bw);rfl;(first | assumption | rfl);rfl;rfl)
      | ((with_reducible apply LW.as);rfl;rfl)
      | ((with_reducible apply LW.B9);rfl;assumption;(repeat (first | exact lT | apply lV));(exact j8.h);rfl;rfl;(repeat (first | ((with_reducible apply Nf.cons);rfl) | ((with_reducible apply Nf.nil);rfl))))
      | ((with_reducible apply LW.len);(exact mb.h);rfl;rfl)
      | ((with_reducible apply LW.BZ);(exact mb.h);(exact qJ.h);rfl;rfl;assumption;assumption;rfl)
      | ((with_reducible apply LW.FB);rfl;rfl;rfl)
      | ((with_reducible apply LW.ext);rfl;rfl;rfl)
      | ((with_reducible apply LW.not);rfl;rfl)
      | ((with_reducible apply LW.neg);rfl;rfl)
      | with_reducible apply LW.nil
      | ((with_reducible apply CW.nr);(repeat first | (with_reducible exact rfl) | (with_reducible apply oY)))
      | with_reducible apply CW.seq
      | with_reducible apply DB
      | with_reducible apply Dz
      | with_reducible apply DD
      | with_reducible apply DS
      | with_reducible apply DV
      | with_reducible apply DW
      | ((with_reducible apply DQ);(exact rfl))
      | with_reducible apply CW.skip
      | ((with_reducible apply AW.nr);(repeat first | (with_reducible exact rfl) | (with_reducible apply oY)))
      | refine gA ?_
      | ((fail_if_success (with_reducible apply LW.Gz));(with_reducible apply LW.ex);rfl))
    exact a ()):B:=f fun _=>a
end
section
variable {P:Program} {n:Nat} {Q:jV} {e:Env} {w w0 w':World} {F0:List Nat} {L:List Item} {ops:Array Oper} {fuel:Nat} {E:mE} {listed:Array Bool} {i j:Nat}
abbrev vI (n:Int):Value:=.int .i64 n
abbrev vS (a:Option Addr) (n c:Nat):Value:=.slice a n c
abbrev Ad:=Option Addr
theorem jO (i:Nat) {o:Oper} (h:LW P n ops (fun x e' w'=>x=.normal∧Kept ops i E w w'∧AW P n ops Q fuel E (listed.setIfInBounds i true) e' w') [o] e w) (ho:ops[i]?=some o:=by rfl) (hr:Region.ready .any ops listed=[i]:=by kernel_rfl):AW P n ops Q (fuel+1) E listed e w:=AW.one hr ⟨o,ho,h⟩
theorem jN (k:Kept ops j E w0 w) (h:AW P n ops Q fuel E (listed.setIfInBounds j true) e w):LW P n ops (fun x e' w'=>x=.normal∧Kept ops j E w0 w'∧AW P n ops Q fuel E (listed.setIfInBounds j true) e' w') [] e w:=LW.nil ⟨rfl,k,h⟩
theorem jW {C:World→Prop} (k:Kept ops i E w w') (h:waits ops i j=true:=by kernel_rfl):Kept ops i ((j,C)::E) w w':=.w h k
theorem jZ:Kept ops i [] w w':=.n
theorem St.ce (h:St w0 F0 w L) (i:Nat) {g:Nat} {ty:TypeId} {cs:List Value} (hi:L[i]?=some (bx g ty cs):=by rfl):w.heap[g]?=some (.cells cs.toArray ty (0,0)):=St.cell (h:=h) hi
theorem ob {α β:Type} {x:Option α} {f:α→Option β} {b:β} (h:x.bind f=some b):∃ a,x=some a∧f a=some b:=Option.bind_eq_some_iff.1 h
theorem ch {α:Type} {y z:Option α} {r:α} {c1 c2:Code} {x:Operand} {b:Bool} (h:(bif b then y else z)=some r) (h1:b=true→y=some r→CW P n c1 Q e w) (h2:b=false→z=some r→CW P n c2 Q e w) (hx:ev e x=.bool b:=by rfl):CW P n (.cond x c1 c2) Q e w:=CW.cond hx (fun q=>h1 q (Hu h q)) (fun q=>h2 q (Hj h q))
theorem St.pk (is:List Nat) {M:List Item} (h:St w0 F0 w L) (hp:kN L is=some M:=by exact rfl) (hn:m3 is=true:=by exact rfl):St w0 F0 w M:=h.pick is hp hn
theorem St.po (is:List Nat) {M:List Item} {A:Prop} (h:St w0 F0 w L) (hp:kN L is=some M:=by exact rfl) (hn:m3 is=true:=by exact rfl) (a:A:=by (repeat' (first | exact trivial | exact rfl | refine ⟨?_,?_⟩))):A∧St w0 F0 w M:=⟨a,h.pick is hp hn⟩
end
abbrev rb {α:Type} [gT α] (w:World) (a:Option Addr) (c:Nat) (l:List α):Prop:=iy (ja w []) w a c l
theorem gb {A B:Prop} {α β:Type} {x:Option α} {k:α→Option β} {b:β} (h:x.bind k=some b) (g:∀ y,x=some y→k y=some b→A) (f:autoParam ((Unit→A)→B) go._auto_1):B:=f fun _=>by
  obtain ⟨y,h1,h2⟩:=Option.bind_eq_some_iff.1 h;exact g y h1 h2
section
variable {P:Program} {n:Nat} {ops:Array Oper} {Q:jV} {rest:List Oper} {e:Env} {w:World} {d:Nat} {ty:TypeId} {pos:String} {aft:Array Edge} {t el:TypeId} {x y:Operand} {b o l c m:Nat} {k:IntKind} {i:Int}
theorem ix [hu:mb P t (.slice el)] [hz:qJ P el m] (h0:0≤i) (h1:i<l) (h:LW P n ops Q rest (jR e d (.pointer (some ⟨b,o+i.toNat * m,none⟩))) w) (hx:ev e x=.slice (some ⟨b,o,none⟩) l c:=by rfl) (hy:ev e y=.int k i:=by rfl) (hd:Nat.ble (d+1) n=true:=by rfl) :
    LW P n ops Q (⟨some d,.indexAddr t x y,ty,pos,aft,none⟩::rest) e w:=LW.u (iI.ix hu.h hz.h hx hy h0 h1) hd h
end
end Go.Kx
