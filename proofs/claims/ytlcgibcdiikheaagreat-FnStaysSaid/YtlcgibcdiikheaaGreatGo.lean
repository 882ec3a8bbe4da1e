import Derived.Test.YtlcgibcdiikheaaGreatLaw
namespace Go.Kx
open Go Go.RowKit
set_option linter.unusedVariables false
set_option linter.unusedSimpArgs false
class ma (P:Program) (t:TypeId) (a:outParam (Option Nat)):Prop where
  h:jH P t=some a
class ky (P:Program) (t:TypeId) (k:Nat) (off:outParam Nat) (a:outParam (Option Nat)):Prop where
  h:fo P t k=some (off,a)
class vY (P:Program) (t:TypeId) (m:outParam Nat):Prop where
  h:sR P t=some m
class o7 (P:Program) (t:TypeId) (ds:outParam TypeDesc):Prop where
  h:P.underlying t=some ds
class vT (P:Program) (t:TypeId) where
  z:Value
  h:zeroV P t=some z
inductive Nf {α:Type}:List α→List α→Prop
  | nil {l:List α} (h:l=[]):Nf l []
  | cons {l t m:List α} {a:α} (h:l=a::t) (k:Nf t m):Nf l (a::m)
theorem Nf.eq {α:Type}:∀ {l m:List α},Nf l m→l=m
  | _,_,.nil h=>h
  | _,_,.cons h k=>by rw [h,k.eq]
def zn:List (Nat×Value)→Nat→Option Value
  | [],_=>none
  | (d,v)::l,i=>bif Nat.beq i d then some v else zn l i
def lA (l:List (Nat×Value)):Operand→Option Value
  | .tmp t=>zn l t
  | .const v=>some v
  | .global g=>some (.pointer (some ⟨g,0,none⟩))
  | .func f=>some (.func (.func f) #[] #[])
theorem uK {e:Env}:∀ {l:List (Nat×Value)} {i:Nat} {v:Value},zn l i=some v→iy e l i=v
  | [],_,_,h=>by cases h
  | (d,u)::l,i,v,h=>by
    unfold zn at h;unfold iy lJ;cases hb:Nat.beq i d
    · rw [hb] at h;exact uK h
    · rw [hb] at h;exact Option.some.inj h
theorem jo {e:Env} {l:List (Nat×Value)} {x:Operand} {v:Value} (h:lA l x=some v):ev (iy e l) x=v:=by
  cases x with
  | tmp t=>exact uK h
  | const u=>exact Option.some.inj h
  | global g=>exact Option.some.inj h
  | func f=>exact Option.some.inj h
def zU:Nat→List Value→List (Nat×Value)
  | _,[]=>[]
  | k,v::l=>(k,v)::zU (k+1) l
theorem Dh:∀ (l:List Value) (k i:Nat),iy (fun _=>undef) (zU k l) i=if k≤i then l.getD (i - k) undef else undef
  | [],k,i=>by simp [zU,iy]
  | v::l,k,i=>by
    unfold zU iy lJ;cases hb:Nat.beq i k
    · have hne:i ≠ k:=fun e=>by subst e;simp at hb
      rw [Q9,Dh l (k+1) i]
      by_cases h1:k+1≤i
      · rw [if_pos h1,if_pos (by omega),show i - k=(i - (k+1))+1 by omega];rfl
      · rw [if_neg h1,if_neg (by omega)]
    · have:=Nat.eq_of_beq_eq_true hb;subst this;simp
theorem NT (args:Array Value):DJ args=iy (fun _=>undef) (zU 0 args.toList):=by
  funext i
  rw [Dh];simp [DJ,Array.getD_eq_getD_getElem?,List.getD_eq_getElem?_getD]
theorem g8.fn {P:Program} {n:Nat} {w:World} {f:FuncId} {fn:Func} {c:Code} {args:Array Value} {K:Value→World→Prop} (hf:P.funcs[f]?=some fn)
    (h:∀ e,CW P n c (fun x e' w'=>(match x with | .ret=>True | .normal=>True | _=>False)∧∃ v,lk P fn.results e' w' v∧K v w') (iy e (zU 0 args.toList)) w) (hb:fn.body=some c:=by rfl) (hn:fn.ntmps=n:=by rfl) (ha:Nat.ble args.size n=true:=by rfl):g8 P f args w K :=
  g8.of hf hb hn ha (NT args ▸ h _)
inductive pB (l:List (Nat×Value)):List Nat→List (Nat×Value)→Prop
  | nil:pB l [] []
  | cons {d:Nat} {v:Value} {ds:List Nat} {m:List (Nat×Value)} (h:zn l d=some v) (t:pB l ds m):pB l (d::ds) ((d,v)::m)
theorem pB.en {e:Env} {l:List (Nat×Value)}:∀ {ds:List Nat} {m:List (Nat×Value)},pB l ds m→En (iy e l) m
  | _,_,.nil=>trivial
  | _,_,.cons h t=>⟨uK h,t.en⟩
section
variable {P:Program} {n:Nat} {Q Q':lT} {e:Env} {l:List (Nat×Value)} {w w0:World} {F0:List Nat} {L:List Item} {ops:Array Oper} {rest:List Oper} {ty:TypeId} {pos:String} {aft:Array Edge} {d:Nat} {v:Value}
theorem tT {E:Env} (h:E=iy e l):lJ E d v=iy e ((d,v)::l):=by subst h;rfl
theorem LW.nr {E:Env} (hE:E=iy e l) (h:LW P n ops Q rest (iy e ((d,v)::l)) w):LW P n ops Q rest (lJ E d v) w:=by subst hE;exact h
theorem CW.nr {E:Env} {c:Code} (hE:E=iy e l) (h:CW P n c Q (iy e ((d,v)::l)) w):CW P n c Q (lJ E d v) w:=by subst hE;exact h
theorem LW.fl (ds:List Nat) {E:Env} {m:List (Nat×Value)} (k:∀ e',LW P n ops Q rest (iy e' m) w) (hE:E=iy e l:=by repeat (first | (with_reducible exact rfl) | (with_reducible apply tT))) (h:pB l ds m:=by repeat (first | exact pB.nil | (apply pB.cons;rfl))):LW P n ops Q rest E w:=by subst hE;exact LW.fresh h.en k
theorem CW.fl (ds:List Nat) {E:Env} {m:List (Nat×Value)} {c:Code} (k:∀ e',CW P n c Q (iy e' m) w) (hE:E=iy e l:=by repeat (first | (with_reducible exact rfl) | (with_reducible apply tT))) (h:pB l ds m:=by repeat (first | exact pB.nil | (apply pB.cons;rfl))):CW P n c Q E w:=by subst hE;exact CW.fresh h.en k
theorem LW.mv {x:Operand} (hx:lA l x=some v) (hd:Nat.ble (d+1) n=true) (h:LW P n ops Q rest (iy e ((d,v)::l)) w):LW P n ops Q (⟨some d,.move x,ty,pos,aft,none⟩::rest) (iy e l) w :=
  LW.p (by simp [pv,jo hx]) hd h
theorem LW.as {x:Operand} (hx:lA l x=some v) (hd:Nat.ble (d+1) n=true) (h:LW P n ops Q rest (iy e ((d,v)::l)) w):LW P n ops Q (⟨some d,.assign x,ty,pos,aft,none⟩::rest) (iy e l) w :=
  LW.p (by simp [pv,jo hx]) hd h
theorem LW.bin {o:BinOp} {t u:TypeId} {x y:Operand} {k k':IntKind} {a b:Int} (hx:lA l x=some (.int k a)) (hy:lA l y=some (.int k' b)) (hv:(bif Ez k k' then MM o k a b else none)=some v) (hd:Nat.ble (d+1) n=true)
    (h:LW P n ops Q rest (iy e ((d,v)::l)) w):LW P n ops Q (⟨some d,.binOp o t x y u,ty,pos,aft,none⟩::rest) (iy e l) w :=
  LW.p (by simp only [pv,jo hx,jo hy];exact hv) hd h
theorem LW.not {t:TypeId} {x:Operand} {b:Bool} (hx:lA l x=some (.bool b)) (hd:Nat.ble (d+1) n=true) (h:LW P n ops Q rest (iy e ((d,.bool (!b))::l)) w):LW P n ops Q (⟨some d,.unOp .not t x,ty,pos,aft,none⟩::rest) (iy e l) w :=
  LW.p (by simp [pv,jo hx]) hd h
theorem LW.neg {t:TypeId} {x:Operand} {k:IntKind} {a:Int} (hx:lA l x=some (.int k a)) (hd:Nat.ble (d+1) n=true) (h:LW P n ops Q rest (iy e ((d,.int k (k.wrap (0 - a)))::l)) w):LW P n ops Q (⟨some d,.unOp .neg t x,ty,pos,aft,none⟩::rest) (iy e l) w :=
  LW.p (by simp [pv,jo hx]) hd h
theorem LW.ext {x:Operand} {i:Nat} {vs:Array Value} (hx:lA l x=some (.tuple vs)) (hv:CS vs.toList i=some v) (hd:Nat.ble (d+1) n=true) (h:LW P n ops Q rest (iy e ((d,v)::l)) w):LW P n ops Q (⟨some d,.extract x i,ty,pos,aft,none⟩::rest) (iy e l) w :=
  LW.p (by simp only [pv,jo hx];exact hv) hd h
theorem LW.fa {t:TypeId} {x:Operand} {k off g o:Nat} {a:Option Nat} (hf:fo P t k=some (off,a)) (hx:lA l x=some (.pointer (some ⟨g,o,none⟩))) (hd:Nat.ble (d+1) n=true)
    (h:LW P n ops Q rest (iy e ((d,.pointer (some ⟨g,o+off,none⟩))::l)) w):LW P n ops Q (⟨some d,.fieldAddr t x k,ty,pos,aft,none⟩::rest) (iy e l) w:=LW.u (iM.fa hf (jo hx)) hd h
theorem LW.nc {x:Operand} {a:Addr} (hx:lA l x=some (.pointer (some a))) (hd:Nat.ble (d+1) n=true) (h:LW P n ops Q rest (iy e ((d,.pointer (some a))::l)) w):LW P n ops Q (⟨some d,.nilCheck x,ty,pos,aft,none⟩::rest) (iy e l) w:=LW.u (iM.nc (jo hx)) hd h
theorem LW.len {t el:TypeId} {x:Operand} {a:Option Addr} {m c:Nat} (ht:P.underlying t=some (.slice el)) (hx:lA l x=some (.slice a m c)) (hd:Nat.ble (d+1) n=true) (h:LW P n ops Q rest (iy e ((d,.int .i64 (m:Int))::l)) w) :
    LW P n ops Q (⟨some d,.call { callee:=.builtin .len,args:=#[x],argTypes:=#[t] },ty,pos,aft,none⟩::rest) (iy e l) w:=LW.u (iM.len ht (jo hx)) hd h
theorem LW.JK {c a b:Operand} {t:Bool} (hc:lA l c=some (.bool t)) (ht:t=true) (ha:lA l a=some v) (hd:Nat.ble (d+1) n=true) (h:LW P n ops Q rest (iy e ((d,v)::l)) w):LW P n ops Q (⟨some d,.pick c a b,ty,pos,aft,none⟩::rest) (iy e l) w:=by
  refine LW.u (iM.Mx (jo hc) ht) hd ?_;rw [jo ha];exact h
theorem LW.J6 {c a b:Operand} {t:Bool} (hc:lA l c=some (.bool t)) (ht:t=false) (ha:lA l b=some v) (hd:Nat.ble (d+1) n=true) (h:LW P n ops Q rest (iy e ((d,v)::l)) w):LW P n ops Q (⟨some d,.pick c a b,ty,pos,aft,none⟩::rest) (iy e l) w:=by
  refine LW.u (iM.Mo (jo hc) ht) hd ?_;rw [jo ha];exact h
theorem LW.ld {t bt:TypeId} {x:Operand} {g o:Nat} {cs:List Value} (hx:lA l x=some (.pointer (some ⟨g,o,none⟩))) (hS:St w0 F0 w L) (hm:∃ i:Nat,L[i]?=some (bx g bt cs)) (ht:jH P t=some none) (hv:xf cs o=some v) (hd:Nat.ble (d+1) n=true)
    (h:LW P n ops Q rest (iy e ((d,v)::l)) w):LW P n ops Q (⟨some d,.load t x,ty,pos,aft,none⟩::rest) (iy e l) w:=by
  obtain ⟨i,hi⟩:=hm;exact LW.Qx hS i hi ht (jo hx) hv hd h
theorem LW.K0 {t bt:TypeId} {x:Operand} {g o m:Nat} {cs:List Value} (hx:lA l x=some (.pointer (some ⟨g,o,none⟩))) (hS:St w0 F0 w L) (hm:∃ i:Nat,L[i]?=some (bx g bt cs)) (ht:jH P t=some (some m)) (hl:Nat.ble (o+m) cs.length=true) (hd:Nat.ble (d+1) n=true)
    {vs:List Value} (hn:Nf (tf cs o m) vs) (h:LW P n ops Q rest (iy e ((d,.agg vs.toArray)::l)) w):LW P n ops Q (⟨some d,.load t x,ty,pos,aft,none⟩::rest) (iy e l) w:=by
  obtain ⟨i,hi⟩:=hm;cases hn.eq;exact LW.Qu hS i hi ht (jo hx) hl hd h
theorem LW.yes {op:Op} {dd:Option Tmp} {j q:Nat} {b t:Bool} (hd:(ops[j]?).bind (·.dst)=some q) (hv:zn l q=some (.bool t)) (ht:t=b) (h:LW P n ops Q (⟨dd,op,ty,pos,aft,none⟩::rest) (iy e l) w) :
    LW P n ops Q (⟨dd,op,ty,pos,aft,some (j,b)⟩::rest) (iy e l) w:=LW.gY (mS hd (uK hv) ht) h
theorem LW.no {op:Op} {j q:Nat} {b t:Bool} (hd:(ops[j]?).bind (·.dst)=some q) (hv:zn l q=some (.bool t)) (ht:t=!b) (hn:Nat.ble (d+1) n=true) (h:LW P n ops Q rest (iy e ((d,undef)::l)) w) :
    LW P n ops Q (⟨some d,op,ty,pos,aft,some (j,b)⟩::rest) (iy e l) w:=LW.gN (Eg hd (uK hv) ht) hn h
theorem LW.Lc {t el:TypeId} {x y:Operand} {b o m' c m:Nat} {k:IntKind} {i:Int} (ht:P.underlying t=some (.slice el)) (hm:sR P el=some m) (hx:lA l x=some (.slice (some ⟨b,o,none⟩) m' c)) (hy:lA l y=some (.int k i)) (h0:0≤i) (h1:i<m') (hd:Nat.ble (d+1) n=true)
    (h:LW P n ops Q rest (iy e ((d,.pointer (some ⟨b,o+i.toNat * m,none⟩))::l)) w):LW P n ops Q (⟨some d,.indexAddr t x y,ty,pos,aft,none⟩::rest) (iy e l) w:=LW.u (iM.ix ht hm (jo hx) (jo hy) h0 h1) hd h
theorem LW.OX {op:Op} {j q:Nat} {b:Bool} (hd:(ops[j]?).bind (·.dst)=some q) (hv:zn l q=some undef) (hn:Nat.ble (d+1) n=true) (h:LW P n ops Q rest (iy e ((d,undef)::l)) w) :
    LW P n ops Q (⟨some d,op,ty,pos,aft,some (j,b)⟩::rest) (iy e l) w:=LW.gN (Bt hd (uK hv)) hn h
def kQ (P:Program) (n:Nat) (ops:Array Oper) (Q:lT) (fuel:Nat) (E:pV) (listed:Array Bool) (i d:Nat) (op:Op) (e:Env) (w:World):Prop :=
  kP ops listed i=true∧Nat.ble (d+1) n=true∧∃ v,((iM P (ev e) op v∧AW P n ops Q fuel E (listed.setIfInBounds i true) (lJ e d v) w)∨∃ C,jV P (ev e) op C v∧C w∧AW P n ops Q fuel ((i,C)::E) (listed.setIfInBounds i true) (lJ e d v) w)
def Ke (ops:Array Oper) (listed:Array Bool) (i:Nat):Bool :=
  !(kP ops listed i) || match ops[i]? with
    | some o=>match o.op with
      | .call _=>true
      | .store _ _ _=>true
      | .box _ _=>true
      | .alloc _=>true
      | .makeSlice _ _ _=>true
      | .buildSlice _ _ _=>true
      | _=>false
    | none=>false
def Ji (ops:Array Oper) (listed:Array Bool) (b:Nat):Nat→Bool
  | 0=>true
  | k+1=>Ke ops listed (b+k)&&Ji ops listed b k
inductive Nx:Array Bool→Nat→Prop
  | start (m:Nat):Nx (Array.replicate m false) 0
  | set (a:Array Bool) (j:Nat):Nx (a.setIfInBounds j true) (j+1)
section
variable {fuel:Nat} {E:pV} {listed:Array Bool} {i b:Nat} {op:Op}
theorem kQ.on {g:Option (Nat×Bool)} (hi:ops[i]?=some ⟨some d,op,ty,pos,aft,g⟩) (hw:pP ops g e=true) (h:kQ P n ops Q fuel E listed i d op e w):AW P n ops Q (fuel+1) E listed e w:=by
  obtain ⟨hok,hd,v,⟨hp,h⟩ | ⟨C,hl,hC,h⟩⟩:=h
  · exact AW.u hi hok hw hd hp h
  · exact AW.take hi hok hw hd hl hC h
theorem AW.O1 (h:AW P n ops Q fuel E listed e w):AW P n ops Q fuel E listed e w:=h
theorem AW.nr {E':Env} (hE:E'=iy e l) (h:AW P n ops Q fuel E listed (iy e ((d,v)::l)) w):AW P n ops Q fuel E listed (lJ E' d v) w:=by subst hE;exact h
theorem AW.gN (k:Nat) (hx:Nx listed b) (hi:ops[b+k]?=some ⟨some d,op,ty,pos,aft,none⟩) (hsk:Ji ops listed b k=true) (h:kQ P n ops Q fuel E listed (b+k) d op (iy e l) w):AW P n ops Q (fuel+1) E listed (iy e l) w:=h.on hi rfl
theorem AW.gY (k:Nat) {j q:Nat} {t t':Bool} (hx:Nx listed b) (hi:ops[b+k]?=some ⟨some d,op,ty,pos,aft,some (j,t')⟩) (hsk:Ji ops listed b k=true) (hq:(ops[j]?).bind (·.dst)=some q) (hv:zn l q=some (.bool t)) (ht:t=t') (h:kQ P n ops Q fuel E listed (b+k) d op (iy e l) w):AW P n ops Q (fuel+1) E listed (iy e l) w:=h.on hi (mS hq (uK hv) ht)
theorem AW.g0 (k:Nat) {j q:Nat} {t t':Bool} (hx:Nx listed b) (hi:ops[b+k]?=some ⟨some d,op,ty,pos,aft,some (j,t')⟩) (hsk:Ji ops listed b k=true) (hq:(ops[j]?).bind (·.dst)=some q) (hv:zn l q=some (.bool t)) (ht:t=!t') (hok:kP ops listed (b+k)=true) (hd:Nat.ble (d+1) n=true)
    (h:AW P n ops Q fuel E (listed.setIfInBounds (b+k) true) (iy e ((d,undef)::l)) w):AW P n ops Q (fuel+1) E listed (iy e l) w:=AW.no hi hok (Eg hq (uK hv) ht) hd h
theorem AW.gU (k:Nat) {j q:Nat} {t':Bool} (hx:Nx listed b) (hi:ops[b+k]?=some ⟨some d,op,ty,pos,aft,some (j,t')⟩) (hsk:Ji ops listed b k=true) (hq:(ops[j]?).bind (·.dst)=some q) (hv:zn l q=some undef) (hok:kP ops listed (b+k)=true) (hd:Nat.ble (d+1) n=true)
    (h:AW P n ops Q fuel E (listed.setIfInBounds (b+k) true) (iy e ((d,undef)::l)) w):AW P n ops Q (fuel+1) E listed (iy e l) w:=AW.no hi hok (Bt hq (uK hv)) hd h
theorem kQ.u (hp:iM P (ev (iy e l)) op v) (hd:Nat.ble (d+1) n=true) (hok:kP ops listed i=true) (h:AW P n ops Q fuel E (listed.setIfInBounds i true) (iy e ((d,v)::l)) w):kQ P n ops Q fuel E listed i d op (iy e l) w:=⟨hok,hd,v,.inl ⟨hp,h⟩⟩
theorem kQ.mv {x:Operand} (hx:lA l x=some v) (hd:Nat.ble (d+1) n=true) (hok:kP ops listed i=true) (h:AW P n ops Q fuel E (listed.setIfInBounds i true) (iy e ((d,v)::l)) w):kQ P n ops Q fuel E listed i d (.move x) (iy e l) w:=.u (.p (by simp [pv,jo hx])) hd hok h
theorem kQ.as {x:Operand} (hx:lA l x=some v) (hd:Nat.ble (d+1) n=true) (hok:kP ops listed i=true) (h:AW P n ops Q fuel E (listed.setIfInBounds i true) (iy e ((d,v)::l)) w):kQ P n ops Q fuel E listed i d (.assign x) (iy e l) w:=.u (.p (by simp [pv,jo hx])) hd hok h
theorem kQ.bin {o:BinOp} {t u:TypeId} {x y:Operand} {k k':IntKind} {a b:Int} (hx:lA l x=some (.int k a)) (hy:lA l y=some (.int k' b)) (hv:(bif Ez k k' then MM o k a b else none)=some v) (hd:Nat.ble (d+1) n=true) (hok:kP ops listed i=true)
    (h:AW P n ops Q fuel E (listed.setIfInBounds i true) (iy e ((d,v)::l)) w):kQ P n ops Q fuel E listed i d (.binOp o t x y u) (iy e l) w:=.u (.p (by simp only [pv,jo hx,jo hy];exact hv)) hd hok h
theorem kQ.not {t:TypeId} {x:Operand} {b:Bool} (hx:lA l x=some (.bool b)) (hd:Nat.ble (d+1) n=true) (hok:kP ops listed i=true) (h:AW P n ops Q fuel E (listed.setIfInBounds i true) (iy e ((d,.bool (!b))::l)) w):kQ P n ops Q fuel E listed i d (.unOp .not t x) (iy e l) w:=.u (.p (by simp [pv,jo hx])) hd hok h
theorem kQ.neg {t:TypeId} {x:Operand} {k:IntKind} {a:Int} (hx:lA l x=some (.int k a)) (hd:Nat.ble (d+1) n=true) (hok:kP ops listed i=true) (h:AW P n ops Q fuel E (listed.setIfInBounds i true) (iy e ((d,.int k (k.wrap (0 - a)))::l)) w):kQ P n ops Q fuel E listed i d (.unOp .neg t x) (iy e l) w:=.u (.p (by simp [pv,jo hx])) hd hok h
theorem kQ.ext {x:Operand} {j:Nat} {vs:Array Value} (hx:lA l x=some (.tuple vs)) (hv:CS vs.toList j=some v) (hd:Nat.ble (d+1) n=true) (hok:kP ops listed i=true) (h:AW P n ops Q fuel E (listed.setIfInBounds i true) (iy e ((d,v)::l)) w):kQ P n ops Q fuel E listed i d (.extract x j) (iy e l) w:=.u (.p (by simp only [pv,jo hx];exact hv)) hd hok h
theorem kQ.fa {t:TypeId} {x:Operand} {k off g o:Nat} {a:Option Nat} (hf:fo P t k=some (off,a)) (hx:lA l x=some (.pointer (some ⟨g,o,none⟩))) (hd:Nat.ble (d+1) n=true) (hok:kP ops listed i=true)
    (h:AW P n ops Q fuel E (listed.setIfInBounds i true) (iy e ((d,.pointer (some ⟨g,o+off,none⟩))::l)) w):kQ P n ops Q fuel E listed i d (.fieldAddr t x k) (iy e l) w:=.u (.fa hf (jo hx)) hd hok h
theorem kQ.nc {x:Operand} {a:Addr} (hx:lA l x=some (.pointer (some a))) (hd:Nat.ble (d+1) n=true) (hok:kP ops listed i=true) (h:AW P n ops Q fuel E (listed.setIfInBounds i true) (iy e ((d,.pointer (some a))::l)) w):kQ P n ops Q fuel E listed i d (.nilCheck x) (iy e l) w:=.u (.nc (jo hx)) hd hok h
theorem kQ.len {t el:TypeId} {x:Operand} {a:Option Addr} {m c:Nat} (ht:P.underlying t=some (.slice el)) (hx:lA l x=some (.slice a m c)) (hd:Nat.ble (d+1) n=true) (hok:kP ops listed i=true) (h:AW P n ops Q fuel E (listed.setIfInBounds i true) (iy e ((d,.int .i64 (m:Int))::l)) w) :
    kQ P n ops Q fuel E listed i d (.call { callee:=.builtin .len,args:=#[x],argTypes:=#[t] }) (iy e l) w:=.u (.len ht (jo hx)) hd hok h
theorem kQ.JK {c a b:Operand} {t:Bool} (hc:lA l c=some (.bool t)) (ht:t=true) (ha:lA l a=some v) (hd:Nat.ble (d+1) n=true) (hok:kP ops listed i=true) (h:AW P n ops Q fuel E (listed.setIfInBounds i true) (iy e ((d,v)::l)) w):kQ P n ops Q fuel E listed i d (.pick c a b) (iy e l) w :=
  .u (jo ha ▸ iM.Mx (jo hc) ht) hd hok h
theorem kQ.J6 {c a b:Operand} {t:Bool} (hc:lA l c=some (.bool t)) (ht:t=false) (ha:lA l b=some v) (hd:Nat.ble (d+1) n=true) (hok:kP ops listed i=true) (h:AW P n ops Q fuel E (listed.setIfInBounds i true) (iy e ((d,v)::l)) w):kQ P n ops Q fuel E listed i d (.pick c a b) (iy e l) w :=
  .u (jo ha ▸ iM.Mo (jo hc) ht) hd hok h
theorem kQ.Lc {t el:TypeId} {x y:Operand} {b' o m' c m:Nat} {k:IntKind} {j:Int} (ht:P.underlying t=some (.slice el)) (hm:sR P el=some m) (hx:lA l x=some (.slice (some ⟨b',o,none⟩) m' c)) (hy:lA l y=some (.int k j)) (h0:0≤j) (h1:j<m') (hd:Nat.ble (d+1) n=true) (hok:kP ops listed i=true)
    (h:AW P n ops Q fuel E (listed.setIfInBounds i true) (iy e ((d,.pointer (some ⟨b',o+j.toNat * m,none⟩))::l)) w):kQ P n ops Q fuel E listed i d (.indexAddr t x y) (iy e l) w:=kQ.u (iM.ix ht hm (jo hx) (jo hy) h0 h1) hd hok h
theorem kQ.ld {t bt:TypeId} {x:Operand} {g o:Nat} {cs:List Value} (hx:lA l x=some (.pointer (some ⟨g,o,none⟩))) (hS:St w0 F0 w L) (hm:∃ i:Nat,L[i]?=some (bx g bt cs)) (ht:jH P t=some none) (hv:xf cs o=some v) (hd:Nat.ble (d+1) n=true) (hok:kP ops listed i=true)
    (h:AW P n ops Q fuel ((i,fun w=>w.heap[g]?=some (.cells cs.toArray bt (0,0)))::E) (listed.setIfInBounds i true) (iy e ((d,v)::l)) w):kQ P n ops Q fuel E listed i d (.load t x) (iy e l) w:=by
  obtain ⟨j,hj⟩:=hm;exact ⟨hok,hd,v,.inr ⟨_,jV.box (bt:=bt) (fr:=(0,0)) ht (jo hx) hv,St.cell (h:=hS) (i:=j) hj,h⟩⟩
theorem kQ.K0 {t bt:TypeId} {x:Operand} {g o m:Nat} {cs:List Value} (hx:lA l x=some (.pointer (some ⟨g,o,none⟩))) (hS:St w0 F0 w L) (hm:∃ i:Nat,L[i]?=some (bx g bt cs)) (ht:jH P t=some (some m)) (hl:Nat.ble (o+m) cs.length=true) (hd:Nat.ble (d+1) n=true) {vs:List Value} (hn:Nf (tf cs o m) vs) (hok:kP ops listed i=true)
    (h:AW P n ops Q fuel ((i,fun w=>w.heap[g]?=some (.cells cs.toArray bt (0,0)))::E) (listed.setIfInBounds i true) (iy e ((d,.agg vs.toArray)::l)) w):kQ P n ops Q fuel E listed i d (.load t x) (iy e l) w:=by
  obtain ⟨j,hj⟩:=hm;cases hn.eq;exact ⟨hok,hd,_,.inr ⟨_,jV.OB (bt:=bt) (fr:=(0,0)) ht (jo hx) hl,St.cell (h:=hS) (i:=j) hj,h⟩⟩
end
theorem LW.P8 {r:List Oper} {o:Oper} (h:LW P n ops Q (o::r) e w):LW P n ops Q (o::r) e w:=h
theorem LW.ex {r:List Oper} {o:Oper} (hr:rest=o::r) (h:LW P n ops Q (o::r) e w):LW P n ops Q rest e w:=by subst hr;exact h
theorem MZ {id:Nat} (h:Q .normal e w):Fo id Q (.exit id) e w:=by
  show (bif Nat.beq id id then Q .normal e w else Q (.exit id) e w)
  rw [Nat.beq_refl];exact h
theorem ME {id id':Nat} (hn:Nat.beq id' id=false) (h:Q (.exit id') e w):Fo id Q (.exit id') e w:=by
  show (bif Nat.beq id' id then Q .normal e w else Q (.exit id') e w)
  rw [hn];exact h
theorem MG {id:Nat} (h:Q .normal e w):Fo id Q .normal e w:=h
theorem MK {id:Nat} (h:Q .ret e w):Fo id Q .ret e w:=h
theorem Mp {M:Env→World→Prop} (h:M e w):zZ M Q .normal e w:=h
theorem MJ {M:Env→World→Prop} (h:Q .ret e w):zZ M Q .ret e w:=h
theorem MW {id:Nat} {M:Env→World→Prop} (h:Q (.exit id) e w):zZ M Q (.exit id) e w:=h
theorem LW.st {E:Env} {t bt:TypeId} {x y:Operand} {a:Option Nat} {g o:Nat} {cs vs cs':List Value} {L':List Item} (hS:St w0 F0 w L) (i:Nat) (h:∀ w':World,St w0 F0 w' L'→LW P n ops Q rest (iy e l) w')
    (hE:E=iy e l:=by repeat (first | (with_reducible exact rfl) | (with_reducible apply tT))) (hx:lA l x=some (.pointer (some ⟨g,o,none⟩)):=by rfl) (hi:L[i]?=some (bx g bt cs):=by rfl) (ht:jH P t=some a:=by exact ma.h) (hy:lA l y=some v:=by rfl)
    (hv:Nf v.cells.toList vs:=by repeat (first | ((with_reducible apply Nf.cons);rfl) | ((with_reducible apply Nf.nil);rfl))) (hm:vs.length=a.getD 1:=by rfl) (hl:Nat.ble (o+vs.length) cs.length=true:=by rfl) (h1:vs.all (·.oneCell')=true:=by rfl) (hc:Nf (yE cs o vs) cs':=by repeat (first | ((with_reducible apply Nf.cons);rfl) | ((with_reducible apply Nf.nil);rfl))) (hL:Nf (L.set i (bx g bt cs')) L':=by repeat (first | ((with_reducible apply Nf.cons);rfl) | ((with_reducible apply Nf.nil);rfl))) :
    LW P n ops Q (⟨none,.store t x y,ty,pos,aft,none⟩::rest) E w:=by
  subst hE;cases hv.eq;cases hc.eq;cases hL.eq;exact LW.P1 hS i hi ht (jo hx) (by rw [jo hy]) hm hl h1 fun w' hS' _=>h w' hS'
theorem LW.bo {E:Env} {t:TypeId} {x:Operand} {cs:List Value} (hS:St w0 F0 w L) (h:∀ (g:Nat) (w':World),St w0 F0 w' (bx g t cs::L)→LW P n ops Q rest (iy e ((d,.pointer (some ⟨g,0,none⟩))::l)) w')
    (hE:E=iy e l:=by repeat (first | (with_reducible exact rfl) | (with_reducible apply tT))) (hx:lA l x=some v:=by rfl) (hv:Nf v.cells.toList cs:=by repeat (first | ((with_reducible apply Nf.cons);rfl) | ((with_reducible apply Nf.nil);rfl))) (hd:Nat.ble (d+1) n=true:=by rfl):LW P n ops Q (⟨some d,.box t x,ty,pos,aft,none⟩::rest) E w:=by
  subst hE;cases hv.eq;exact LW.box (by rw [jo hx]) hS hd fun g w' hS' _=>h g w' hS'
theorem LW.al {E:Env} {t:TypeId} {cs:List Value} [z:vT P t] (hS:St w0 F0 w L) (h:∀ (g:Nat) (w':World),St w0 F0 w' (bx g t cs::L)→LW P n ops Q rest (iy e ((d,.pointer (some ⟨g,0,none⟩))::l)) w')
    (hE:E=iy e l:=by repeat (first | (with_reducible exact rfl) | (with_reducible apply tT))) (hv:Nf z.z.cells.toList cs:=by repeat (first | ((with_reducible apply Nf.cons);rfl) | ((with_reducible apply Nf.nil);rfl))) (hd:Nat.ble (d+1) n=true:=by rfl):LW P n ops Q (⟨some d,.alloc t,ty,pos,aft,none⟩::rest) E w:=by
  subst hE;cases hv.eq;exact LW.alloc z.h hS hd fun g w' hS' _=>h g w' hS'
theorem LW.se {α:Type} [ia α] {E:Env} {t:TypeId} {x y:Operand} {av:Option Nat} {g o0 off c:Nat} {l q:List α} {k:Int} {z z':α} {vs:Array Value} (o:Nat) (hS:St w0 F0 w L) (i:Nat) (hk:idx l k=some z) (hq:some (l.set k.toNat z')=some q)
    (h:∀ w':World,St w0 F0 w' (L.set i (sl (some ⟨g,o0,none⟩) c q))→LW P n ops Q rest E w')
    (hi:L[i]?=some (sl (some ⟨g,o0,none⟩) c l):=by rfl) (hx:ev E x=.pointer (some ⟨g,off,none⟩):=by rfl) (hy:(ev E y).cells=vs:=by rfl) (hoff:off=o0+k.toNat * ia.sz α+o:=by rfl) (ht:jH P t=some av:=by exact ma.h)
    (hm:vs.size=av.getD 1:=by rfl) (h1:vs.toList.all (·.oneCell')=true:=by rfl) (hold:Nat.ble (o+vs.size) (ia.sz α)=true:=by rfl)
    (hM:∀ (w:World) (cs:List Value) (F G:List Nat),ia.own w cs F z→iP [] w G→∃ F',ia.own w (cs.take o++vs.toList++cs.drop (o+vs.toList.length)) F' z'∧(∀ b,b ∈ F'→b ∈ F∨b ∈ G)∧(F.Nodup→G.Nodup→(∀ b,b ∈ F→b ∉ G)→F'.Nodup)):LW P n ops Q (⟨none,.store t x y,ty,pos,aft,none⟩::rest) E w :=
  LW.x6 (M:=[]) (L:=L) hS hi hk ht hx hoff hy hm h1 hold hM fun w' hS' _=>h w' (by rwa [Option.some.inj hq] at hS')
theorem xn {α:Type} [ia α] {z z':α} {vs:Array Value} (hv:∀ w:World,ia.own w vs.toList [] z':=by exact fun _=>⟨rfl,rfl⟩):∀ (w:World) (cs:List Value) (F G:List Nat),ia.own w cs F z→iP [] w G→∃ F',ia.own w (cs.take 0++vs.toList++cs.drop (0+vs.toList.length)) F' z'∧(∀ b,b ∈ F'→b ∈ F∨b ∈ G)∧(F.Nodup→G.Nodup→(∀ b,b ∈ F→b ∉ G)→F'.Nodup) :=
  whole (fun w G hG=>by cases (show G=[] from hG);exact hv w)
theorem oQ {a:Item} {l:List Item}:∃ i:Nat,(a::l)[i]?=some a:=⟨0,rfl⟩
theorem oR {a b:Item} {l:List Item} (h:∃ i:Nat,l[i]?=some a):∃ i:Nat,(b::l)[i]?=some a:=h.elim fun i hi=>⟨i+1,hi⟩
theorem CW.jn (ds is:List Nat) (xs:List (Nat×Value)) {E:Env} {m mm:List (Nat×Value)} {L':List Item} {c:Code} (hS:St w0 F0 w L)
    (hE:E=iy e l:=by repeat (first | (with_reducible exact rfl) | (with_reducible apply tT))) (hm:pB l ds m:=by repeat (first | exact pB.nil | (apply pB.cons;rfl))) (hmm:Nf (m++xs) mm:=by repeat (first | ((with_reducible apply Nf.cons);rfl) | ((with_reducible apply Nf.nil);rfl))) (hL:Nf ((m5 L is).getD []) L':=by repeat (first | ((with_reducible apply Nf.cons);rfl) | ((with_reducible apply Nf.nil);rfl)))
    (h1:CW P n c (zZ (fun e' wb=>En e' mm∧St w0 F0 wb L') Q) E w) (h2:∀ e' wb,St w0 F0 wb L'→Q .normal (iy e' mm) wb):CW P n c Q E w :=
  CW.cut _ h1 fun e' wb ⟨hE',hS'⟩=>by obtain ⟨e2,rfl⟩:=hE'.out;exact h2 e2 wb hS'
section
variable {σ β:Type} {c:Code} {E:Env} {m:List (Nat×Value)} {g gb:σ→List (Nat×Value)} {L':List Item} {N:Nat} {init:σ}
abbrev RT (P:Program) (fr:Array ResultVar) (V:β→Value) (w0:World) (F0:List Nat) (r:β) (x:Exit) (e:Env) (w:World):Prop:=x=.ret∧∃ u,u=r∧∃ v,lk P fr e w v∧v=V u∧St w0 F0 w []
theorem CW.lb (ds is bs:List Nat) (kx:Nat) (f:σ→List (Nat×Value)) {body:σ→Option (σ⊕σ)} {o:σ} (hS:St w0 F0 w L) (ho:Kx.iter body N init=some o)
    (hE:E=iy e l:=by repeat (first | (with_reducible exact rfl) | (with_reducible apply tT))) (hm:pB l ds m:=by repeat (first | exact pB.nil | (apply pB.cons;rfl))) (hg:∀ s,Nf (m++f s) (g s):=by intro s;repeat (first | ((with_reducible apply Nf.cons);rfl) | ((with_reducible apply Nf.nil);rfl))) (hgb:∀ s,pB (g s) bs (gb s):=by intro s;repeat (first | exact pB.nil | (apply pB.cons;rfl))) (hL:Nf ((m5 L is).getD []) L':=by repeat (first | ((with_reducible apply Nf.cons);rfl) | ((with_reducible apply Nf.nil);rfl)))
    (h0:En (iy e l) (g init):=by repeat (first | exact trivial | (refine ⟨rfl,?_⟩))) (hp:m5 L is=some L':=by rfl) (hn:qJ is=true:=by rfl)
    (hb:∀ (s:σ) (e':Env) (wb:World) (o':σ⊕σ),St w0 F0 wb L'→body s=some o'→CW P n c (fun x e w'=>match o' with
      | .inl s'=>x=.normal∧En e (g s')∧St w0 F0 w' L'
      | .inr r=>(match x with | .normal=>False | _=>True)∧x=.exit kx∧En e (gb r)∧St w0 F0 w' L') (iy e' (g s)) wb) :
    CW P n (.loop c) (fun x e wb=>x=.exit kx∧En e (gb o)∧St w0 F0 wb L') E w:=by
  subst hE
  exact CW.iter (fun s e wb=>En e (g s)∧St w0 F0 wb L') (fun r x e wb=>x=.exit kx∧En e (gb r)∧St w0 F0 wb L')
    (fun s e' wb o' ⟨hE',hS'⟩ hbd=>by obtain ⟨e2,rfl⟩:=hE'.out;exact (hb s e2 wb o' hS' hbd).mono fun x e w hq=>by rcases o' with _ | _<;>exact hq) N init _ w o ⟨h0,hS.pick is hp hn⟩ ho
theorem CW.lx (ds is bs:List Nat) (kx:Nat) (f:σ→List (Nat×Value)) (T:β→Exit→Env→World→Prop) {body:σ→Option (σ⊕(σ⊕β))} {o:σ⊕β} (hS:St w0 F0 w L) (ho:Kx.iter body N init=some o)
    (hE:E=iy e l:=by repeat (first | (with_reducible exact rfl) | (with_reducible apply tT))) (hm:pB l ds m:=by repeat (first | exact pB.nil | (apply pB.cons;rfl))) (hg:∀ s,Nf (m++f s) (g s):=by intro s;repeat (first | ((with_reducible apply Nf.cons);rfl) | ((with_reducible apply Nf.nil);rfl))) (hgb:∀ s,pB (g s) bs (gb s):=by intro s;repeat (first | exact pB.nil | (apply pB.cons;rfl))) (hL:Nf ((m5 L is).getD []) L':=by repeat (first | ((with_reducible apply Nf.cons);rfl) | ((with_reducible apply Nf.nil);rfl)))
    (h0:En (iy e l) (g init):=by repeat (first | exact trivial | (refine ⟨rfl,?_⟩))) (hp:m5 L is=some L':=by rfl) (hn:qJ is=true:=by rfl)
    (hb:∀ (s:σ) (e':Env) (wb:World) (o':σ⊕(σ⊕β)),St w0 F0 wb L'→body s=some o'→CW P n c (fun x e w'=>match o' with
      | .inl s'=>x=.normal∧En e (g s')∧St w0 F0 w' L'
      | .inr r=>(match x with | .normal=>False | _=>True)∧match r with | .inl b=>x=.exit kx∧En e (gb b)∧St w0 F0 w' L' | .inr r=>T r x e w') (iy e' (g s)) wb) :
    CW P n (.loop c) (fun x e wb=>match o with | .inl b=>x=.exit kx∧En e (gb b)∧St w0 F0 wb L' | .inr r=>T r x e wb) E w:=by
  subst hE
  exact (CW.iter (fun s e wb=>En e (g s)∧St w0 F0 wb L') (fun r x e wb=>match r with | .inl b=>x=.exit kx∧En e (gb b)∧St w0 F0 wb L' | .inr r=>T r x e wb)
    (fun s e' wb o' ⟨hE',hS'⟩ hbd=>by obtain ⟨e2,rfl⟩:=hE'.out;exact (hb s e2 wb o' hS' hbd).mono fun x e w hq=>by rcases o' with _ | (_ | _)<;>exact hq) N init _ w o ⟨h0,hS.pick is hp hn⟩ ho).mono fun x e w hq=>by rcases o with _ | _<;>exact hq
end
theorem CW.it {σ ρ:Type} {c:Code} {body:σ→Option (σ⊕ρ)} {N:Nat} {s0:σ} {r:ρ} {Q':lT} (ho:Kx.iter body N s0=some r) (R:σ→Env→World→Prop) (Q:ρ→lT)
    (hb:∀ (s:σ) (e:Env) (w:World) (o:σ⊕ρ),R s e w→body s=some o→CW P n c (fun x e' w'=>match o with
      | .inl s'=>x=.normal∧R s' e' w'
      | .inr r=>(match x with | .normal=>False | _=>True)∧Q r x e' w') e w) (hR:R s0 e w) (k:∀ x e w,Q r x e w→Q' x e w):CW P n (.loop c) Q' e w :=
  CW.mono (CW.iter R Q hb N s0 e w r hR ho) k
theorem CW.ie {σ:Type} {c:Code} {body:σ→Option (σ⊕σ)} {N:Nat} {s0 r:σ} {Q':lT} (ho:Kx.iter body N s0=some r) (kx:Nat) (R:σ→Env→World→Prop)
    (hb:∀ (s:σ) (e:Env) (w:World) (o:σ⊕σ),R s e w→body s=some o→CW P n c (fun x e' w'=>match o with
      | .inl s'=>x=.normal∧R s' e' w'
      | .inr r=>(match x with | .normal=>False | _=>True)∧x=.exit kx∧R r e' w') e w) (hR:R s0 e w) (k:∀ e w,R r e w→Q' (.exit kx) e w):CW P n (.loop c) Q' e w :=
  CW.mono (CW.iter R (fun r x e w=>x=.exit kx∧R r e w) (fun s e w o h1 h2=>CW.mono (hb s e w o h1 h2) fun x e w h=>by cases o<;>exact h) N s0 e w r hR ho) (fun x e w h=>by obtain ⟨rfl,h⟩:=h;exact k e w h)
def CR (P:Program) (n:Nat) (c:Code) (Q:lT) (N:Nat) (e:Env) (w:World):Prop:=∀ a,Is a n e→Code.rounds P c (lift n Q) N a w
theorem CR.mono {c:Code} {N:Nat} {Q Q':lT} (h:CR P n c Q N e w) (hq:∀ x e w,Q x e w→Q' x e w):CR P n c Q' N e w:=by
  have key:∀ (N:Nat) (a:Act) (w:World),Code.rounds P c (lift n Q) N a w→Code.rounds P c (lift n Q') N a w:=by
    intro N
    induction N with
    | zero=>intro a w h;exact h
    | succ N ih =>
      intro a w h;rw [rounds_succ] at h ⊢;refine Code.wp_mono ?_ h;intro x a' w' h
      cases x with
      | normal=>exact ih a' w' h
      | _=>obtain ⟨hc,e',he',hq'⟩:=h;exact ⟨hc,e',he',hq _ _ _ hq'⟩
  exact fun a ha=>key N a w (h a ha)
theorem CR.iter {σ ρ:Type} {c:Code} {body:σ→Option (σ⊕ρ)} (R:σ→Env→World→Prop) (Q:ρ→lT)
    (hb:∀ (s:σ) (e:Env) (w:World) (o:σ⊕ρ),R s e w→body s=some o→CW P n c (fun x e' w'=>match o with
      | .inl s'=>x=.normal∧R s' e' w'
      | .inr r=>(match x with | .normal=>False | _=>True)∧Q r x e' w') e w)
    (N:Nat) (s:σ) (e:Env) (w:World) (r:ρ) (hR:R s e w) (h:Kx.iter body N s=some r):CR P n c (Q r) N e w:=by
  have key:∀ (N:Nat) (s:σ) (e:Env) (w:World),R s e w→Kx.iter body N s=some r→∀ a,Is a n e→Code.rounds P c (lift n (Q r)) N a w:=by
    intro N
    induction N with
    | zero=>intro s e w _ h;cases h
    | succ N ih =>
      intro s e w hR h a ha;obtain ⟨o,ho,h2⟩:=xh h;rw [rounds_succ];refine Code.wp_mono ?_ (hb s e w o hR ho a ha);rintro x a' w' ⟨hc,e',he',hq⟩
      cases o with
      | inl s' =>
        obtain ⟨rfl,hR'⟩:=hq;exact ih s' e' w' hR' h2 a' he'
      | inr r' =>
        cases h2
        cases x with
        | normal=>exact hq.1.elim
        | _=>exact ⟨hc,e',he',hq.2⟩
  exact fun a ha=>key N s e w hR h a ha
theorem fj {R:Value→Prop} {u:Value} (hS:St w0 F0 w L) (hR:R u:=by exact lk.one (iq.t rfl)):∃ v,R v∧v=u∧St w0 F0 w []:=⟨u,hR,rfl,hS.pick [] rfl rfl⟩
theorem fi {A:Prop} {R:Value→Prop} {u:Value} (hS:St w0 F0 w L) (hA:A:=by exact trivial) (hR:R u:=by exact lk.one (iq.t rfl)):A∧∃ v,R v∧v=u∧St w0 F0 w []:=⟨hA,fj hS hR⟩
theorem St.pO (hS:St w0 F0 w L) (is js:List Nat) {L1 L2:List Item} (h1:Nf ((m5 L is).getD []) L1:=by repeat (first | ((with_reducible apply Nf.cons);rfl) | ((with_reducible apply Nf.nil);rfl))) (h2:Nf ((m5 L js).getD []) L2:=by repeat (first | ((with_reducible apply Nf.cons);rfl) | ((with_reducible apply Nf.nil);rfl))) (hp:m5 L (is++js)=some (L1++L2):=by rfl) (hn:qJ (is++js)=true:=by rfl):∃ F,oT w0 F0 w L1 L2 F:=(hS.pick (is++js) hp hn).Pb
theorem oi {α:Type} {a b:α} (h:some a=some b):a=b:=Option.some.inj h
theorem LW.cl {f:FuncId} {as:Array Operand} {ts:Array TypeId} {al:List Value} {K:Value→World→Prop} (q:g8 P f al.toArray w K) (h:∀ v w',K v w'→LW P n ops Q rest (lJ e d v) w')
    (hp:wv P f=true:=by kernel_rfl) (hd:Nat.ble (d+1) n=true:=by rfl) (hargs:as.toList.map (ev e)=al:=by rfl) :
    LW P n ops Q (⟨some d,.call { callee:=.value (.func f),args:=as,argTypes:=ts },ty,pos,aft,none⟩::rest) e w:=LW.call hp hd hargs (g8.mono q h)
theorem LW.c0 {f:FuncId} {as:Array Operand} {ts:Array TypeId} {al:List Value} {u:Value} (q:g8 P f al.toArray w fun v w'=>v=u∧St w [] w' []) (hS:St w0 F0 w L) (h:∀ w',St w0 F0 w' L→LW P n ops Q rest (lJ e d u) w')
    (hp:wv P f=true:=by kernel_rfl) (hd:Nat.ble (d+1) n=true:=by rfl) (hargs:as.toList.map (ev e)=al:=by rfl) :
    LW P n ops Q (⟨some d,.call { callee:=.value (.func f),args:=as,argTypes:=ts },ty,pos,aft,none⟩::rest) e w :=
  LW.cl q (fun v w' ⟨h1,h2⟩=>by subst h1;exact h w' (by simpa using hS.add h2)) hp hd hargs
theorem gI {A B:Prop} (a:A) (f:(Unit→A)→B:=by
    intro a
    (first
      | ((with_reducible apply kQ.mv);rfl;rfl;(decide +kernel))
      | ((with_reducible apply kQ.fa);(exact ky.h);rfl;rfl;(decide +kernel))
      | ((with_reducible apply kQ.ld);rfl;assumption;(repeat (first | exact oQ | apply oR));(exact ma.h);rfl;rfl;(decide +kernel))
      | ((with_reducible apply kQ.bin);rfl;rfl;rfl;rfl;(decide +kernel))
      | ((with_reducible apply kQ.JK);rfl;(first | assumption | rfl);rfl;rfl;(decide +kernel))
      | ((with_reducible apply kQ.J6);rfl;(first | assumption | rfl);rfl;rfl;(decide +kernel))
      | ((with_reducible apply kQ.as);rfl;rfl;(decide +kernel))
      | ((with_reducible apply kQ.K0);rfl;assumption;(repeat (first | exact oQ | apply oR));(exact ma.h);rfl;rfl;(repeat (first | ((with_reducible apply Nf.cons);rfl) | ((with_reducible apply Nf.nil);rfl)));(decide +kernel))
      | ((with_reducible apply kQ.len);(exact o7.h);rfl;rfl;(decide +kernel))
      | ((with_reducible apply kQ.Lc);(exact o7.h);(exact vY.h);rfl;rfl;assumption;assumption;rfl;(decide +kernel))
      | ((with_reducible apply kQ.ext);rfl;rfl;rfl;(decide +kernel))
      | ((with_reducible apply kQ.not);rfl;rfl;(decide +kernel))
      | ((with_reducible apply kQ.neg);rfl;rfl;(decide +kernel))
      | ((with_reducible apply kQ.nc);rfl;rfl;(decide +kernel)))
    exact a ()):B:=f fun _=>a
theorem gA {A B:Prop} (a:A) (f:(Unit→A)→B:=by
    intro a
    with_reducible apply AW.O1
    (first
      | ((apply AW.gN 0);(first | exact Nx.set _ _ | exact Nx.start _);rfl;rfl;refine gI ?_)
      | ((apply AW.gY 0);(first | exact Nx.set _ _ | exact Nx.start _);rfl;rfl;rfl;rfl;(first | assumption | rfl);refine gI ?_)
      | ((apply AW.g0 0);(first | exact Nx.set _ _ | exact Nx.start _);rfl;rfl;rfl;rfl;(first | assumption | rfl);(decide +kernel);rfl)
      | ((apply AW.gU 0);(first | exact Nx.set _ _ | exact Nx.start _);rfl;rfl;rfl;rfl;(decide +kernel);rfl)
      | ((apply AW.gN 1);(first | exact Nx.set _ _ | exact Nx.start _);rfl;(decide +kernel);refine gI ?_)
      | ((apply AW.gY 1);(first | exact Nx.set _ _ | exact Nx.start _);rfl;(decide +kernel);rfl;rfl;(first | assumption | rfl);refine gI ?_)
      | ((apply AW.g0 1);(first | exact Nx.set _ _ | exact Nx.start _);rfl;(decide +kernel);rfl;rfl;(first | assumption | rfl);(decide +kernel);rfl)
      | ((apply AW.gU 1);(first | exact Nx.set _ _ | exact Nx.start _);rfl;(decide +kernel);rfl;rfl;(decide +kernel);rfl)
      | ((apply AW.gN 2);(first | exact Nx.set _ _ | exact Nx.start _);rfl;(decide +kernel);refine gI ?_)
      | ((apply AW.gY 2);(first | exact Nx.set _ _ | exact Nx.start _);rfl;(decide +kernel);rfl;rfl;(first | assumption | rfl);refine gI ?_)
      | ((apply AW.g0 2);(first | exact Nx.set _ _ | exact Nx.start _);rfl;(decide +kernel);rfl;rfl;(first | assumption | rfl);(decide +kernel);rfl)
      | ((apply AW.gU 2);(first | exact Nx.set _ _ | exact Nx.start _);rfl;(decide +kernel);rfl;rfl;(decide +kernel);rfl)
      | ((apply AW.done);(decide +kernel)))
    exact a ()):B:=f fun _=>a
theorem go {A B:Prop} (a:A) (f:(Unit→A)→B:=by
    intro a
    repeat (first
      | ((with_reducible apply LW.nr);(repeat first | (with_reducible exact rfl) | (with_reducible apply tT)))
      | ((with_reducible apply LW.yes);rfl;rfl;(first | assumption | rfl))
      | ((with_reducible apply LW.no);rfl;rfl;(first | assumption | rfl);rfl)
      | ((with_reducible apply LW.mv);rfl;rfl)
      | ((with_reducible apply LW.fa);(exact ky.h);rfl;rfl)
      | ((with_reducible apply LW.ld);rfl;assumption;(repeat (first | exact oQ | apply oR));(exact ma.h);rfl;rfl)
      | ((with_reducible apply LW.bin);rfl;rfl;rfl;rfl)
      | ((with_reducible apply LW.JK);rfl;(first | assumption | rfl);rfl;rfl)
      | ((with_reducible apply LW.J6);rfl;(first | assumption | rfl);rfl;rfl)
      | ((with_reducible apply LW.as);rfl;rfl)
      | ((with_reducible apply LW.K0);rfl;assumption;(repeat (first | exact oQ | apply oR));(exact ma.h);rfl;rfl;(repeat (first | ((with_reducible apply Nf.cons);rfl) | ((with_reducible apply Nf.nil);rfl))))
      | ((with_reducible apply LW.len);(exact o7.h);rfl;rfl)
      | ((with_reducible apply LW.Lc);(exact o7.h);(exact vY.h);rfl;rfl;assumption;assumption;rfl)
      | ((with_reducible apply LW.OX);rfl;rfl;rfl)
      | ((with_reducible apply LW.ext);rfl;rfl;rfl)
      | ((with_reducible apply LW.not);rfl;rfl)
      | ((with_reducible apply LW.neg);rfl;rfl)
      | with_reducible apply LW.nil
      | ((with_reducible apply CW.nr);(repeat first | (with_reducible exact rfl) | (with_reducible apply tT)))
      | with_reducible apply CW.seq
      | with_reducible apply Mp
      | with_reducible apply MZ
      | with_reducible apply MG
      | with_reducible apply MK
      | with_reducible apply MW
      | with_reducible apply MJ
      | ((with_reducible apply ME);(exact rfl))
      | with_reducible apply CW.region
      | with_reducible apply CW.skip
      | with_reducible apply CW.block
      | with_reducible apply CW.exit
      | (with_reducible apply CW.ret)
      | ((with_reducible apply AW.nr);(repeat first | (with_reducible exact rfl) | (with_reducible apply tT)))
      | refine gA ?_
      | ((fail_if_success (with_reducible apply LW.P8));(with_reducible apply LW.ex);rfl))
    exact a ()):B:=f fun _=>a
theorem gs {A B:Prop} (a:A) (f:(Unit→A)→B:=by
    intro a
    repeat (first
      | ((with_reducible apply LW.nr);(repeat first | (with_reducible exact rfl) | (with_reducible apply tT)))
      | ((with_reducible apply LW.yes);rfl;rfl;(first | assumption | rfl))
      | ((with_reducible apply LW.no);rfl;rfl;(first | assumption | rfl);rfl)
      | ((with_reducible apply LW.mv);rfl;rfl)
      | ((with_reducible apply LW.fa);(exact ky.h);rfl;rfl)
      | ((with_reducible apply LW.ld);rfl;assumption;(repeat (first | exact oQ | apply oR));(exact ma.h);rfl;rfl)
      | ((with_reducible apply LW.bin);rfl;rfl;rfl;rfl)
      | ((with_reducible apply LW.JK);rfl;(first | assumption | rfl);rfl;rfl)
      | ((with_reducible apply LW.J6);rfl;(first | assumption | rfl);rfl;rfl)
      | ((with_reducible apply LW.as);rfl;rfl)
      | ((with_reducible apply LW.K0);rfl;assumption;(repeat (first | exact oQ | apply oR));(exact ma.h);rfl;rfl;(repeat (first | ((with_reducible apply Nf.cons);rfl) | ((with_reducible apply Nf.nil);rfl))))
      | ((with_reducible apply LW.len);(exact o7.h);rfl;rfl)
      | ((with_reducible apply LW.Lc);(exact o7.h);(exact vY.h);rfl;rfl;assumption;assumption;rfl)
      | ((with_reducible apply LW.OX);rfl;rfl;rfl)
      | ((with_reducible apply LW.ext);rfl;rfl;rfl)
      | ((with_reducible apply LW.not);rfl;rfl)
      | ((with_reducible apply LW.neg);rfl;rfl)
      | with_reducible apply LW.nil
      | ((with_reducible apply CW.nr);(repeat first | (with_reducible exact rfl) | (with_reducible apply tT)))
      | with_reducible apply CW.seq
      | with_reducible apply Mp
      | with_reducible apply MZ
      | with_reducible apply MG
      | with_reducible apply MK
      | with_reducible apply MW
      | with_reducible apply MJ
      | ((with_reducible apply ME);(exact rfl))
      | with_reducible apply CW.skip
      | ((with_reducible apply AW.nr);(repeat first | (with_reducible exact rfl) | (with_reducible apply tT)))
      | refine gA ?_
      | ((fail_if_success (with_reducible apply LW.P8));(with_reducible apply LW.ex);rfl))
    exact a ()):B:=f fun _=>a
end
section
variable {P:Program} {n:Nat} {Q:lT} {e:Env} {w w0 w':World} {F0:List Nat} {L:List Item} {ops:Array Oper} {fuel:Nat} {E:pV} {listed:Array Bool} {i j:Nat}
abbrev vI (n:Int):Value:=.int .i64 n
abbrev vS (a:Option Addr) (n c:Nat):Value:=.slice a n c
abbrev Ad:=Option Addr
theorem jO (i:Nat) {o:Oper} (h:LW P n ops (fun x e' w'=>x=.normal∧Kept ops i E w w'∧AW P n ops Q fuel E (listed.setIfInBounds i true) e' w') [o] e w) (ho:ops[i]?=some o:=by rfl) (hr:Region.ready .any ops listed=[i]:=by kernel_rfl):AW P n ops Q (fuel+1) E listed e w:=AW.one hr ⟨o,ho,h⟩
theorem jN (k:Kept ops j E w0 w) (h:AW P n ops Q fuel E (listed.setIfInBounds j true) e w):LW P n ops (fun x e' w'=>x=.normal∧Kept ops j E w0 w'∧AW P n ops Q fuel E (listed.setIfInBounds j true) e' w') [] e w:=LW.nil ⟨rfl,k,h⟩
theorem jW {C:World→Prop} (k:Kept ops i E w w') (h:waits ops i j=true:=by kernel_rfl):Kept ops i ((j,C)::E) w w':=.w h k
theorem jZ:Kept ops i [] w w':=.n
theorem St.ce (h:St w0 F0 w L) (i:Nat) {g:Nat} {ty:TypeId} {cs:List Value} (hi:L[i]?=some (bx g ty cs):=by rfl):w.heap[g]?=some (.cells cs.toArray ty (0,0)):=St.cell (h:=h) hi
theorem ob {α β:Type} {x:Option α} {f:α→Option β} {b:β} (h:x.bind f=some b):∃ a,x=some a∧f a=some b:=Option.bind_eq_some_iff.1 h
theorem ch {α:Type} {y z:Option α} {r:α} {c1 c2:Code} {x:Operand} {b:Bool} (h:(bif b then y else z)=some r) (h1:b=true→y=some r→CW P n c1 Q e w) (h2:b=false→z=some r→CW P n c2 Q e w) (hx:ev e x=.bool b:=by rfl):CW P n (.cond x c1 c2) Q e w:=CW.cond hx (fun q=>h1 q (QI h q)) (fun q=>h2 q (QL h q))
theorem St.pk (is:List Nat) {M:List Item} (h:St w0 F0 w L) (hp:m5 L is=some M:=by exact rfl) (hn:qJ is=true:=by exact rfl):St w0 F0 w M:=h.pick is hp hn
theorem St.po (is:List Nat) {M:List Item} {A:Prop} (h:St w0 F0 w L) (hp:m5 L is=some M:=by exact rfl) (hn:qJ is=true:=by exact rfl) (a:A:=by (repeat' (first | exact trivial | exact rfl | refine ⟨?_,?_⟩))):A∧St w0 F0 w M:=⟨a,h.pick is hp hn⟩
end
abbrev rb {α:Type} [ia α] (w:World) (a:Option Addr) (c:Nat) (l:List α):Prop:=iV (ki w []) w a c l
theorem gb {A B:Prop} {α β:Type} {x:Option α} {k:α→Option β} {b:β} (h:x.bind k=some b) (g:∀ y,x=some y→k y=some b→A) (f:autoParam ((Unit→A)→B) go._auto_1):B:=f fun _=>by
  obtain ⟨y,h1,h2⟩:=Option.bind_eq_some_iff.1 h;exact g y h1 h2
section
variable {P:Program} {n:Nat} {ops:Array Oper} {Q:lT} {rest:List Oper} {e:Env} {w:World} {d:Nat} {ty:TypeId} {pos:String} {aft:Array Edge} {t el:TypeId} {x y:Operand} {b o l c m:Nat} {k:IntKind} {i:Int}
theorem ix [hu:o7 P t (.slice el)] [hz:vY P el m] (h0:0≤i) (h1:i<l) (h:LW P n ops Q rest (lJ e d (.pointer (some ⟨b,o+i.toNat * m,none⟩))) w) (hx:ev e x=.slice (some ⟨b,o,none⟩) l c:=by rfl) (hy:ev e y=.int k i:=by rfl) (hd:Nat.ble (d+1) n=true:=by rfl) :
    LW P n ops Q (⟨some d,.indexAddr t x y,ty,pos,aft,none⟩::rest) e w:=LW.u (iM.ix hu.h hz.h hx hy h0 h1) hd h
end
end Go.Kx
namespace Go.Kx
open Go Go.RowKit
set_option linter.unusedVariables false
set_option linter.unusedSimpArgs false
section
variable {α:Type} [ia α] {P:Program} {n:Nat} {Q:lT} {e:Env} {w w0:World} {F0:List Nat} {L:List Item} {ops:Array Oper} {rest:List Oper} {ty:TypeId} {pos:String} {aft:Array Edge} {d:Nat}
end
section
variable {α:Type} [ia α] {P:Program} {n:Nat} {Q:lT} {e:Env} {w w0:World} {F0:List Nat} {L:List Item} {ops:Array Oper} {rest:List Oper} {ty:TypeId} {pos:String} {aft:Array Edge} {d:Nat}
end
section
variable {α:Type} [ia α] {P:Program} {n:Nat} {Q:lT} {e:Env} {w w0:World} {F0:List Nat} {L:List Item} {ops:Array Oper} {rest:List Oper} {ty:TypeId} {pos:String} {aft:Array Edge} {d:Nat}
def Raw (α:Type) [ia α]:Type:={v:List Value // v.length=ia.sz α∧∀ u,u ∈ v→u.oneCell'=true}
instance:ia (Raw α) where
  ty:=ia.ty α
  sz:=ia.sz α
  zero:=⟨ia.zc α,ia.jc (ia.jA (α:=α) default),ia.kF (ia.jA (α:=α) default)⟩
  zc:=ia.zc α
  pos:=ia.pos
  rd _ _ cs x:=cs=x.1
  own _ cs F x:=cs=x.1∧F=[]
  lW:=by intro _ _ _ x h;rw [h];exact x.2.1
  jc:=by intro _ _ _ x h;rw [h.1];exact x.2.1
  lg h _:=h
  lh h _:=h
  j8 h _:=h
  lV h _:=h.1
  kF:=by intro _ _ _ x h;rw [h.1];exact x.2.2
  jA _:=⟨rfl,rfl⟩
end
end Go.Kx
namespace Go.Kx
open Go Go.RowKit
set_option linter.unusedVariables false
set_option linter.unusedSimpArgs false
set_option linter.unusedSectionVars false
section
variable {w w0:World} {F0:List Nat} {L K:List Item}
theorem St.conv {α:Type} {M:α→List Item} {R:α→Prop} (hS:St w0 F0 w (K++L)) (h:∀ F,iP K w F→∃ x F',R x∧F'.Perm F∧iP (M x) w F'):∃ x,R x∧St w0 F0 w (M x++L):=by
  obtain ⟨F,hF,hn,hb⟩:=hS.own;obtain ⟨F1,F2,rfl,h1,h2⟩:=iP.append.1 hF;obtain ⟨x,F',hR,hp,hM⟩:=h F1 h1;have hp2:(F'++F2).Perm (F1++F2):=hp.append_right F2;exact ⟨x,hR,hS.os,hS.tape,hS.output,hS.size,hS.same,F'++F2,iP.append.2 ⟨F',F2,rfl,hM,h2⟩,hp2.nodup_iff.2 hn,fun b hm=>hb b (hp2.mem_iff.1 hm)⟩
end
def tN (p:cd) (h:Hd):jS:=jS.mk p.QQ p.own h p.heap p.gR p.QZ p.QY p.gP p.hY p.QX
def wK (v:jS) (t:List g6):cd:=cd.mk v.QQ v.own t v.heap v.gR v.QZ v.QY v.gP v.hY v.QX
def xR:List Hd→List (List g6)→List Item
  | h::hs,t::ts=>sl h.a h.c t::xR hs ts
  | _,_=>[]
def tl (hs:List Hd) (ts:List (List g6)):Item:=⟨fun w F=>iP (xR hs ts) w F,fun _ _ _ h hb=>h.frame hb⟩
def oS:List Hd→List (List g6)→Prop
  | [],[]=>True
  | h::hs,t::ts=>h.n=t.length∧oS hs ts
  | _,_=>False
theorem oS.len:∀ {hs:List Hd} {ts:List (List g6)},oS hs ts→hs.length=ts.length
  | [],[],_=>rfl
  | _::_,_::_,h=>by simp [oS.len h.2]
  | [],_::_,h=>h.elim
  | _::_,[],h=>h.elim
section
variable {w:World}
theorem I7 {cs:List Value} {F:List Nat} {x:cd} (h:ia.own w cs F x):∃ (k:Hd) (F1 F2:List Nat),(F1++F2).Perm F∧ia.own w cs F1 (tN x k)∧nB w k.a k.c F2 x.QR∧k.n=x.QR.length:=by
  obtain ⟨a0,c0,a1,c1,a2,c2,a3,c3,a7,c7,a8,c8,rfl,f0,r0,rfl,h0,f1,r1,rfl,h1,f2,r2,rfl,h2,hr⟩:=h;refine ⟨⟨a2,x.QR.length,c2⟩,f0++(f1++r2),f2,?_,⟨a0,c0,a1,c1,a3,c3,a7,c7,a8,c8,rfl,f0,_,rfl,h0,f1,_,rfl,h1,hr⟩,h2,rfl⟩;rw [List.append_assoc,List.append_assoc];exact (List.perm_append_comm.append_left f1).append_left f0
theorem IQ {cs:List Value} {F1 F2:List Nat} {v:jS} {t:List g6} (h:ia.own w cs F1 v) (ht:nB w v.QR.a v.QR.c F2 t) (hn:v.QR.n=t.length):∃ F,F.Perm (F1++F2)∧ia.own w cs F (wK v t):=by
  obtain ⟨lb,ow,⟨ta,tn,tc⟩,hp,tp,nx,wt,sp,pr,lo⟩:=v;cases hn;obtain ⟨a0,c0,a1,c1,a3,c3,a7,c7,a8,c8,rfl,f0,r0,rfl,h0,f1,r1,rfl,h1,hr⟩:=h;refine ⟨f0++(f1++(F2++r1)),?_,a0,c0,a1,c1,ta,tc,a3,c3,a7,c7,a8,c8,rfl,f0,_,rfl,h0,f1,_,rfl,h1,F2,_,rfl,ht,hr⟩;rw [List.append_assoc,List.append_assoc];exact (List.perm_append_comm.append_left f1).append_left f0
theorem four {a b c d:List Nat}:((a++b)++(c++d)).Perm ((a++c)++(b++d)):=by
  simp only [List.append_assoc];refine List.Perm.append_left a ?_;rw [← List.append_assoc, ← List.append_assoc];exact List.perm_append_comm.append_right d
theorem AZ:∀ {l:List cd} {cs:List Value} {F:List Nat},kt w cs F l→∃ (hs:List Hd) (F1 F2:List Nat),(F1++F2).Perm F∧kt w cs F1 (List.zipWith tN l hs)∧iP (xR hs (l.map (·.QR))) w F2∧oS hs (l.map (·.QR))
  | [],cs,F,h=>⟨[],[],[],by cases (show F=[] from h);exact List.Perm.refl _,rfl,rfl,trivial⟩
  | x::l,cs,F,⟨c1,c2,G1,G2,hc,hF,h1,h2⟩=>by
    subst hF;obtain ⟨hs,F1,F2,p1,e1,e2,e3⟩:=AZ h2;obtain ⟨k,H1,H2,p2,d1,d2,d3⟩:=I7 h1;exact ⟨k::hs,H1++F1,H2++F2,four.trans (p2.append p1),⟨c1,c2,H1,F1,hc,rfl,d1,e1⟩,⟨H2,F2,rfl,d2,e2⟩,d3,e3⟩
theorem Bl:∀ {l:List jS} {ts:List (List g6)} {cs:List Value} {F1 F2:List Nat},kt w cs F1 l→iP (xR (l.map (·.QR)) ts) w F2→oS (l.map (·.QR)) ts→∃ F,F.Perm (F1++F2)∧kt w cs F (List.zipWith wK l ts)
  | [],[],cs,F1,F2,h,hh,_=>⟨[],by cases (show F1=[] from h);cases (show F2=[] from hh);exact List.Perm.refl _,rfl⟩
  | [],_::_,_,_,_,_,_,h=>h.elim
  | _::_,[],_,_,_,_,_,h=>h.elim
  | x::l,t::ts,cs,F1,F2,⟨c1,c2,G1,G2,hc,hF,h1,h2⟩,⟨H1,H2,hH,k1,k2⟩,⟨n1,n2⟩=>by
    subst hF;subst hH;obtain ⟨F,p1,e1⟩:=Bl h2 k2 n2;obtain ⟨E,p2,e2⟩:=IQ h1 k1 n1;exact ⟨E++F,(p2.append p1).trans four,⟨c1,c2,E,F,hc,rfl,e2,e1⟩⟩
theorem Bk:∀ {l:List iB} {cs:List Value} {F:List Nat},kt w cs F l→∃ hs:List Hd,kt w cs [] (hs.map kl.mk)∧iP (xR hs (l.map (·.list))) w F∧oS hs (l.map (·.list))
  | [],cs,F,h=>⟨[],rfl,h,trivial⟩
  | x::l,cs,F,⟨c1,c2,G1,G2,hc,hF,h1,h2⟩=>by
    subst hF;obtain ⟨hs,e1,e2,e3⟩:=Bk h2;obtain ⟨a,c,rfl,f,r,rfl,d1,dr⟩:=h1;cases (show r=[] from dr);rw [List.append_nil];exact ⟨⟨a,x.list.length,c⟩::hs,⟨_,c2,[],[],hc,rfl,⟨rfl,rfl⟩,e1⟩,⟨f,G2,rfl,d1,e2⟩,rfl,e3⟩
theorem BB:∀ {hs:List Hd} {ts:List (List g6)} {cs:List Value} {F1 F2:List Nat},kt w cs F1 (hs.map kl.mk)→iP (xR hs ts) w F2→oS hs ts→F1=[]∧kt w cs F2 (ts.map iB.mk)
  | [],[],_,_,_,h,hh,_=>⟨h,hh⟩
  | [],_::_,_,_,_,_,_,h=>h.elim
  | _::_,[],_,_,_,_,_,h=>h.elim
  | ⟨a,n,c⟩::hs,t::ts,cs,F1,F2,⟨c1,c2,G1,G2,hc,hF,h1,h2⟩,⟨H1,H2,hH,k1,k2⟩,⟨n1,n2⟩=>by
    subst hF;subst hH;cases n1;obtain ⟨rfl,rfl⟩:=h1;obtain ⟨rfl,e⟩:=BB h2 k2 n2;exact ⟨rfl,_,c2,H1,H2,hc,rfl,⟨a,c,rfl,H1,[],by simp,k1,rfl⟩,e⟩
theorem BV {l:List cd} {hs:List Hd} (h:oS hs (l.map (·.QR))):(List.zipWith tN l hs).length=l.length:=by
  have:=h.len;rw [List.length_map] at this;rw [List.length_zipWith,this,Nat.min_self]
theorem Mj {l:List jS} {ts:List (List g6)} (h:oS (l.map (·.QR)) ts):(List.zipWith wK l ts).length=l.length:=by
  have:=h.len;rw [List.length_map] at this;rw [List.length_zipWith,this,Nat.min_self]
variable {w0:World} {F0:List Nat} {L:List Item} {a:Option Addr} {c:Nat}
theorem St.Kq {l:List cd} (hS:St w0 F0 w (sl a c l::L)):∃ hs:List Hd,oS hs (l.map (·.QR))∧St w0 F0 w (sl a c (List.zipWith tN l hs)::tl hs (l.map (·.QR))::L):=by
  refine St.conv (K:=[sl a c l]) (M:=fun hs=>[sl a c (List.zipWith tN l hs),tl hs (l.map (·.QR))]) hS ?_;rintro F ⟨F1,F2,rfl,h,h2⟩;cases (show F2=[] from h2)
  rcases h with ⟨rfl,rfl,rfl,rfl⟩ | ⟨g,o,cur,F',ha,hg,hs,h1,h2,hF,he⟩
  · exact ⟨[],[],trivial,List.Perm.refl _,[],[],rfl,.inl ⟨rfl,rfl,rfl,rfl⟩,[],[],rfl,rfl,rfl⟩
  · subst hF;obtain ⟨hs',G1,G2,p,e1,e2,e3⟩:=AZ he;refine ⟨hs',(g::G1)++(G2++[]),e3,?_,g::G1,_,rfl,.inr ⟨g,o,cur,G1,ha,hg,hs,by rw [BV e3];exact h1,h2,rfl,e1⟩,G2,[],rfl,e2,rfl⟩;rw [List.append_nil,List.append_nil];exact p.cons g
theorem St.Jk {l:List jS} {hs:List Hd} {ts:List (List g6)} (hS:St w0 F0 w (sl a c l::tl hs ts::L)) (he:l.map (·.QR)=hs) (hl:oS hs ts):St w0 F0 w (sl a c (List.zipWith wK l ts)::L):=by
  subst he
  obtain ⟨_,_,h⟩:=St.conv (α:=Unit) (K:=[sl a c l,tl (l.map (·.QR)) ts]) (M:=fun _=>[sl a c (List.zipWith wK l ts)]) (R:=fun _=>True) hS (by
    rintro F ⟨F1,F2,rfl,h,F3,F4,rfl,h3,h4⟩;cases (show F4=[] from h4)
    rcases h with ⟨rfl,rfl,rfl,rfl⟩ | ⟨g,o,cur,F',ha,hg,hs,h1,h2,hF,he⟩
    · cases ts with
      | nil=>cases (show F3=[] from h3);exact ⟨(),[],trivial,List.Perm.refl _,[],[],rfl,.inl ⟨rfl,rfl,rfl,rfl⟩,rfl⟩
      | cons t ts=>exact hl.elim
    · subst hF;obtain ⟨G,p,e⟩:=Bl he h3 hl;refine ⟨(),(g::G)++[],trivial,?_,g::G,[],rfl,.inr ⟨g,o,cur,G,ha,hg,hs,by rw [Mj hl];exact h1,h2,rfl,e⟩,rfl⟩;rw [List.append_nil,List.append_nil]
      exact p.cons g)
  exact h
theorem St.O4 {l:List iB} (hS:St w0 F0 w (sl a c l::L)):∃ hs:List Hd,oS hs (l.map (·.list))∧St w0 F0 w (sl a c (hs.map kl.mk)::tl hs (l.map (·.list))::L):=by
  refine St.conv (K:=[sl a c l]) (M:=fun hs=>[sl a c (hs.map kl.mk),tl hs (l.map (·.list))]) hS ?_;rintro F ⟨F1,F2,rfl,h,h2⟩;cases (show F2=[] from h2)
  rcases h with ⟨rfl,rfl,rfl,rfl⟩ | ⟨g,o,cur,F',ha,hg,hs,h1,h2,hF,he⟩
  · exact ⟨[],[],trivial,List.Perm.refl _,[],[],rfl,.inl ⟨rfl,rfl,rfl,rfl⟩,[],[],rfl,rfl,rfl⟩
  · subst hF;obtain ⟨hs',e1,e2,e3⟩:=Bk he;refine ⟨hs',(g::[])++(F'++[]),e3,by simp,[g],_,rfl,.inr ⟨g,o,cur,[],ha,hg,hs,?_,h2,rfl,e1⟩,F',[],rfl,e2,rfl⟩;have:=e3.len;rw [List.length_map] at this;rw [List.length_map,this];exact h1
theorem St.JT {hs:List Hd} {ts:List (List g6)} (hS:St w0 F0 w (sl a c (hs.map kl.mk)::tl hs ts::L)) (hl:oS hs ts):St w0 F0 w (sl a c (ts.map iB.mk)::L):=by
  obtain ⟨_,_,h⟩:=St.conv (α:=Unit) (K:=[sl a c (hs.map kl.mk),tl hs ts]) (M:=fun _=>[sl a c (ts.map iB.mk)]) (R:=fun _=>True) hS (by
    rintro F ⟨F1,F2,rfl,h,F3,F4,rfl,h3,h4⟩;cases (show F4=[] from h4)
    rcases h with ⟨rfl,rfl,h5,rfl⟩ | ⟨g,o,cur,F',ha,hg,hs',h1,h2,hF,he⟩
    · cases hs with
      | cons _ _=>cases h5
      | nil=>cases ts with
        | nil=>cases (show F3=[] from h3);exact ⟨(),[],trivial,List.Perm.refl _,[],[],rfl,.inl ⟨rfl,rfl,rfl,rfl⟩,rfl⟩
        | cons t ts=>exact hl.elim
    · subst hF;obtain ⟨rfl,e⟩:=BB he h3 hl;have hn:=hl.len;rw [List.length_map] at h1
      exact ⟨(),(g::F3)++[],trivial,by simp,g::F3,[],rfl,.inr ⟨g,o,cur,F3,ha,hg,hs',by rw [List.length_map, ← hn];exact h1,h2,rfl,e⟩,rfl⟩)
  exact h
theorem A5:∀ {hs hs':List Hd} {ts ts':List (List g6)},oS hs ts→xR (hs++hs') (ts++ts')=xR hs ts++xR hs' ts'
  | [],_,[],_,_=>rfl
  | [],_,_::_,_,h=>h.elim
  | _::_,_,[],_,h=>h.elim
  | h::hs,hs',t::ts,ts',k=>by
    show _::xR (hs++hs') (ts++ts')=_::(xR hs ts++xR hs' ts')
    rw [A5 k.2]
theorem oS.snoc:∀ {hs:List Hd} {ts:List (List g6)} {h:Hd} {t:List g6},oS hs ts→h.n=t.length→oS (hs++[h]) (ts++[t])
  | [],[],_,_,_,h=>⟨h,trivial⟩
  | [],_::_,_,_,k,_=>k.elim
  | _::_,[],_,_,k,_=>k.elim
  | _::_,_::_,_,_,k,h=>⟨k.1,oS.snoc k.2 h⟩
theorem St.PB {hs:List Hd} {ts:List (List g6)} {t:List g6} {h:Hd} (hS:St w0 F0 w (sl h.a h.c t::tl hs ts::L)) (hl:oS hs ts) (hn:h.n=t.length):St w0 F0 w (tl (hs++[h]) (ts++[t])::L):=by
  obtain ⟨_,_,k⟩:=St.conv (α:=Unit) (K:=[sl h.a h.c t,tl hs ts]) (M:=fun _=>[tl (hs++[h]) (ts++[t])]) (R:=fun _=>True) hS (by
    rintro F ⟨F1,F2,rfl,h1,F3,F4,rfl,h3,h4⟩;cases (show F4=[] from h4);refine ⟨(),(F3++F1)++[],trivial,by rw [List.append_nil,List.append_nil];exact List.perm_append_comm,F3++F1,[],rfl,?_,rfl⟩
    show iP (xR (hs++[h]) (ts++[t])) w (F3++F1)
    rw [A5 hl]
    exact iP.append.2 ⟨F3,F1,rfl,h3,F1,[],by simp,h1,rfl⟩)
  exact k
theorem St.QH (hS:St w0 F0 w L):St w0 F0 w (tl [] []::L):=by
  obtain ⟨_,_,k⟩:=St.conv (α:=Unit) (K:=[]) (M:=fun _=>[tl [] []]) (R:=fun _=>True) hS (fun F hF=>⟨(),[],trivial,by cases (show F=[] from hF);exact List.Perm.refl _,[],[],rfl,rfl,rfl⟩);exact k
end
theorem DK {β:Type} {b:Bool} {k:Unit→Option β} {r:β} (h:(gd b).bind k=some r):b=true∧k ()=some r:=by
  cases b with
  | true=>exact ⟨rfl,h⟩
  | false=>cases h
def yy (z:jS) (y:kl):jS:=jS.mk z.QQ z.own y.list z.heap z.gR z.QZ z.QY z.gP z.hY z.QX
theorem Et {pv:List jS} {n N:Nat} (hn:n=pv.length) (hN:pv.length<N) (hB:pv.length<gX) :
    ∃ o,iter (fun s:(List kl)×Int=>(bif decide (s.2<(n:Int)) then ((idx pv s.2).bind fun y=>(app s.1 [kl.mk y.QR]).bind fun z=>some (.inl (z,IntKind.i64.wrap (s.2+1)))) else some (.inr (s.1,s.2)):Option (((List kl)×Int)⊕((List kl)×Int)))) N ([],0)=some o∧o.1=pv.map fun v=>kl.mk v.QR:=by
  subst hn;refine ⟨_,Dg (fun k=>((pv.take k).map fun v=>kl.mk v.QR,(k:Int))) pv.length (r:=(pv.map fun v=>kl.mk v.QR,(pv.length:Int))) hN ?_ ?_,rfl⟩
  · intro k hk;have hy:pv[k]?=some pv[k]:=List.getElem?_eq_getElem hk
    have hl:((pv.take k).map fun v=>kl.mk v.QR).length=k:=by rw [List.length_map,List.length_take];omega
    simp only [iX hk,Rb,iE,hy,Q8]
    have e:pv.take (k+1)=pv.take k++[pv[k]]:=by rw [List.take_add_one,hy];rfl
    rw [kX (k:=k) (by rw [hl];exact Nat.le_refl _) (by omega),Q8,iZ (Nat.lt_trans hk hB),e,List.map_append];rfl
  · simp only [iW,Q9,List.take_length]
theorem Ny {pv:List jS} {tv:List kl} {n N:Nat} (hn:n=tv.length) (hl:tv.length=pv.length) (hN:tv.length<N) (hB:tv.length<gX) :
    ∃ o,iter (fun s:(List jS)×Int=>(bif decide (s.2<(n:Int)) then ((idx tv s.2).bind fun y=>(idx s.1 s.2).bind fun z=>(some (s.1.set (s.2:Int).toNat (jS.mk z.QQ z.own y.list z.heap z.gR z.QZ z.QY z.gP z.hY z.QX))).bind fun q=>some (.inl (q,IntKind.i64.wrap (s.2+1)))) else some (.inr (s.1,s.2)):Option (((List jS)×Int)⊕((List jS)×Int)))) N (pv,0)=some o∧o.1=List.zipWith yy pv tv:=by
  subst hn;refine ⟨_,Dg (fun k=>(List.zipWith yy (pv.take k) (tv.take k)++pv.drop k,(k:Int))) tv.length (r:=(List.zipWith yy pv tv,(tv.length:Int))) hN ?_ ?_,rfl⟩
  · intro k hk;have hy:tv[k]?=some tv[k]:=List.getElem?_eq_getElem hk;have hz:pv[k]?=some (pv[k]'(hl ▸ hk)):=List.getElem?_eq_getElem _
    have hL:(List.zipWith yy (pv.take k) (tv.take k)).length=k:=by rw [List.length_zipWith,List.length_take,List.length_take];omega
    have hd:pv.drop k=(pv[k]'(hl ▸ hk))::pv.drop (k+1):=List.drop_eq_getElem_cons _
    have hg:(List.zipWith yy (pv.take k) (tv.take k)++pv.drop k)[k]?=some (pv[k]'(hl ▸ hk)):=by
      rw [List.getElem?_append_right (by omega),hL,Nat.sub_self,hd];rfl
    simp only [iX hk,Rb,iE,hy,hg,Q8,iZ (Nat.lt_trans hk hB),Int.toNat_natCast];refine congrArg (fun q=>some (Sum.inl (q,((k+1:Nat):Int)))) ?_
    have e1:pv.take (k+1)=pv.take k++[pv[k]'(hl ▸ hk)]:=by rw [List.take_add_one,hz];rfl
    have e2:tv.take (k+1)=tv.take k++[tv[k]]:=by rw [List.take_add_one,hy];rfl
    rw [List.set_append,if_neg (by omega),hL,Nat.sub_self,hd,e1,e2,List.zipWith_append (by rw [List.length_take,List.length_take];omega),List.append_assoc];rfl
  · simp only [iW,Q9];rw [List.take_length,hl,List.take_length,List.drop_length,List.append_nil]
theorem BZ:∀ {l:List cd} {hs:List Hd},hs.length=l.length→(List.zipWith tN l hs).map (fun v=>kl.mk v.QR)=hs.map kl.mk
  | [],[],_=>rfl
  | [],_::_,h=>by simp at h
  | _::_,[],h=>by simp at h
  | _::l,_::hs,h=>by
    show _::(List.zipWith tN l hs).map _=_::hs.map _
    rw [BZ (by simpa using h)];rfl
theorem KK:∀ {pv:List jS} {ht:List Hd},ht.length=pv.length→(List.zipWith yy pv (ht.map kl.mk)).map (·.QR)=ht
  | [],[],_=>rfl
  | [],_::_,h=>by simp at h
  | _::_,[],h=>by simp at h
  | v::pv,h::ht,k=>by
    show h::(List.zipWith yy pv (ht.map kl.mk)).map (·.QR)=h::ht
    rw [KK (by simpa using k)]
theorem HJ:∀ {l:List cd} {hs ht:List Hd} {ts:List (List g6)},hs.length=l.length→ht.length=l.length→List.zipWith wK (List.zipWith yy (List.zipWith tN l hs) (ht.map kl.mk)) ts=je l ts
  | [],_,_,_,_,_=>by simp [je]
  | _::_,[],_,_,h,_=>by simp at h
  | _::_,_::_,[],_,_,h=>by simp at h
  | _::l,_::hs,_::ht,[],_,_=>by simp [je]
  | p::l,h::hs,k::ht,t::ts,h1,h2=>by
    show nV p t::List.zipWith wK (List.zipWith yy (List.zipWith tN l hs) (ht.map kl.mk)) ts=nV p t::je l ts
    rw [HJ (by simpa using h1) (by simpa using h2)]
theorem zz {l:List cd} {ts:List (List g6)} (h:ts.length=l.length):(je l ts).length=l.length:=by
  unfold je;rw [List.length_zipWith,h,Nat.min_self]
theorem M1 {l:List cd} {hs:List Hd} {pv:List jS} {i:Int} {z:cd} (hpv:pv=List.zipWith tN l hs) (hhs:hs.length=l.length) (hz:idx l i=some z):∃ h,idx pv i=some (tN z h):=by
  unfold idx at hz ⊢;split at hz
  · have hlt:i.toNat<hs.length:=by rw [hhs];exact (List.getElem?_eq_some_iff.1 hz).1
    refine ⟨hs[i.toNat],?_⟩;rw [if_pos (by assumption),hpv,List.getElem?_zipWith,hz,List.getElem?_eq_getElem hlt]
  · cases hz
def Rl (l:List cd) (pv:List jS) (hs:List Hd) (ts:List (List g6)) (i:Int):Prop :=
  (∃ h0:List Hd,h0.length=l.length∧pv=List.zipWith tN l h0∧h0.take hs.length=hs)∧oS hs ts∧i=(hs.length:Int)
theorem Rl.ix {l:List cd} {pv:List jS} {hs:List Hd} {ts:List (List g6)} {i:Int} (h:Rl l pv hs ts i) (hc:decide (i<(l.length:Int))=true):∃ v,idx pv i=some v:=by
  obtain ⟨⟨h0,e0,rfl,_⟩,_,rfl⟩:=h;have hk:=of_decide_eq_true hc
  have hlt:hs.length<l.length:=by omega
  exact ⟨tN (l[hs.length]'hlt) (h0[hs.length]'(by omega)),by rw [iE,List.getElem?_zipWith,List.getElem?_eq_getElem hlt,List.getElem?_eq_getElem (by omega)]⟩
theorem Rl.step {l:List cd} {pv:List jS} {hs:List Hd} {ts:List (List g6)} {i:Int} {v:jS} {t:List g6} {h:Hd} (r:Rl l pv hs ts i) (hc:decide (i<(l.length:Int))=true) (hB:l.length<gX) (hx:idx pv i=some v) (hn:h.n=t.length) :
    Rl l (pv.set (i:Int).toNat (jS.mk v.QQ v.own h v.heap v.gR v.QZ v.QY v.gP v.hY v.QX)) (hs++[h]) (ts++[t]) (IntKind.i64.wrap (i+1)):=by
  obtain ⟨⟨h0,e0,rfl,e1⟩,e2,rfl⟩:=r;have hk:=of_decide_eq_true hc
  have hlt:hs.length<l.length:=by omega
  have hg:(List.zipWith tN l h0)[hs.length]?=some (tN (l[hs.length]'hlt) (h0[hs.length]'(by omega))):=by rw [List.getElem?_zipWith,List.getElem?_eq_getElem hlt,List.getElem?_eq_getElem (by omega)]
  rw [iE,hg] at hx;cases Option.some.inj hx;refine ⟨⟨h0.set hs.length h,by rw [List.length_set,e0],?_,?_⟩,e2.snoc hn,?_⟩
  · rw [Int.toNat_natCast];apply List.ext_getElem? fun k=>?_
    by_cases hkk:hs.length=k
    · subst hkk;rw [List.getElem?_set_self (by rw [List.length_zipWith];omega),List.getElem?_zipWith,List.getElem?_set_self (by omega),List.getElem?_eq_getElem hlt];rfl
    · rw [List.getElem?_set_ne hkk,List.getElem?_zipWith,List.getElem?_zipWith,List.getElem?_set_ne hkk]
  · rw [List.length_append,List.length_cons,List.length_nil,Nat.zero_add,List.take_add_one,List.take_set_of_le (Nat.le_refl _),e1,List.getElem?_set,if_pos rfl,if_pos (by omega)];rfl
  · rw [iZ (Nat.lt_trans hlt hB),List.length_append];rfl
theorem D2:∀ {l:List cd} {hs:List Hd},hs.length=l.length→(List.zipWith tN l hs).map (·.QR)=hs
  | [],[],_=>rfl
  | [],_::_,h=>by simp at h
  | _::_,[],h=>by simp at h
  | _::l,h::hs,k=>by
    show h::(List.zipWith tN l hs).map (·.QR)=h::hs
    rw [D2 (by simpa using k)]
theorem HB:∀ {l:List cd} {hs:List Hd} {ts:List (List g6)},hs.length=l.length→oS hs ts→List.zipWith wK (List.zipWith tN l hs) ts=je l ts
  | [],[],[],_,_=>rfl
  | [],[],_::_,_,h=>h.elim
  | [],_::_,_,h,_=>by simp at h
  | _::_,[],_,h,_=>by simp at h
  | _::_,_::_,[],_,h=>h.elim
  | p::l,h::hs,t::ts,k,e=>by
    show nV p t::List.zipWith wK (List.zipWith tN l hs) ts=nV p t::je l ts
    rw [HB (by simpa using k) e.2]
theorem Rl.fin {l:List cd} {pv:List jS} {hs:List Hd} {ts:List (List g6)} {i:Int} (r:Rl l pv hs ts i) (hc:decide (i<(l.length:Int))=false):pv.map (·.QR)=hs∧List.zipWith wK pv ts=je l ts∧ts.length=l.length:=by
  obtain ⟨⟨h0,e0,rfl,e1⟩,e2,rfl⟩:=r;have hk:=of_decide_eq_false hc
  have hle:hs.length≤h0.length:=by rw [← e1,List.length_take];omega
  have hh:h0=hs:=by rw [← e1,List.take_of_length_le (by omega)]
  subst hh;exact ⟨D2 e0,HB e0 e2,by rw [← e2.len,e0]⟩
end Go.Kx
