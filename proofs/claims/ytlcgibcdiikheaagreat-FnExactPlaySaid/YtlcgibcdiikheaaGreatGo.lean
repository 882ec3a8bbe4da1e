import Derived.Test.YtlcgibcdiikheaaGreatLaw
namespace Go.Kx
open Go Go.RowKit
set_option linter.unusedVariables false
set_option linter.unusedSimpArgs false
class kS (P:Program) (t:TypeId) (a:outParam (Option Nat)):Prop where
  h:jx P t=some a
class jB (P:Program) (t:TypeId) (k:Nat) (off:outParam Nat) (a:outParam (Option Nat)):Prop where
  h:fo P t k=some (off,a)
class uu (P:Program) (t:TypeId) (m:outParam Nat):Prop where
  h:nQ P t=some m
class oF (P:Program) (t:TypeId) (ds:outParam TypeDesc):Prop where
  h:P.underlying t=some ds
class vd (P:Program) (t:TypeId) where
  z:Value
  h:zeroV P t=some z
inductive Nf {α:Type}:List α→List α→Prop
  | nil {l:List α} (h:l=[]):Nf l []
  | cons {l t m:List α} {a:α} (h:l=a::t) (k:Nf t m):Nf l (a::m)
theorem Nf.eq {α:Type}:∀ {l m:List α},Nf l m→l=m
  | _,_,.nil h=>h
  | _,_,.cons h k=>by rw [h,k.eq]
def yI:List (Nat×Value)→Nat→Option Value
  | [],_=>none
  | (d,v)::l,i=>bif Nat.beq i d then some v else yI l i
def ks (l:List (Nat×Value)):Operand→Option Value
  | .tmp t=>yI l t
  | .const v=>some v
  | .global g=>some (.pointer (some ⟨g,0,none⟩))
  | .func f=>some (.func (.func f) #[] #[])
theorem ua {e:Env}:∀ {l:List (Nat×Value)} {i:Nat} {v:Value},yI l i=some v→iq e l i=v
  | [],_,_,h=>by cases h
  | (d,u)::l,i,v,h=>by
    unfold yI at h;unfold iq kP;cases hb:Nat.beq i d
    · rw [hb] at h;exact ua h
    · rw [hb] at h;exact Option.some.inj h
theorem ji {e:Env} {l:List (Nat×Value)} {x:Operand} {v:Value} (h:ks l x=some v):ev (iq e l) x=v:=by
  cases x with
  | tmp t=>exact ua h
  | const u=>exact Option.some.inj h
  | global g=>exact Option.some.inj h
  | func f=>exact Option.some.inj h
def zu:Nat→List Value→List (Nat×Value)
  | _,[]=>[]
  | k,v::l=>(k,v)::zu (k+1) l
theorem Cz:∀ (l:List Value) (k i:Nat),iq (fun _=>undef) (zu k l) i=if k≤i then l.getD (i - k) undef else undef
  | [],k,i=>by simp [zu,iq]
  | v::l,k,i=>by
    unfold zu iq kP;cases hb:Nat.beq i k
    · have hne:i ≠ k:=fun e=>by subst e;simp at hb
      rw [PC,Cz l (k+1) i]
      by_cases h1:k+1≤i
      · rw [if_pos h1,if_pos (by omega),show i - k=(i - (k+1))+1 by omega];rfl
      · rw [if_neg h1,if_neg (by omega)]
    · have:=Nat.eq_of_beq_eq_true hb;subst this;simp
theorem LS (args:Array Value):Dh args=iq (fun _=>undef) (zu 0 args.toList):=by
  funext i
  rw [Cz];simp [Dh,Array.getD_eq_getD_getElem?,List.getD_eq_getElem?_getD]
theorem gV.fn {P:Program} {n:Nat} {w:World} {f:FuncId} {fn:Func} {c:Code} {args:Array Value} {K:Value→World→Prop} (hf:P.funcs[f]?=some fn)
    (h:∀ e,CW P n c (fun x e' w'=>(match x with | .ret=>True | .normal=>True | _=>False)∧∃ v,kz P fn.results e' w' v∧K v w') (iq e (zu 0 args.toList)) w) (hb:fn.body=some c:=by rfl) (hn:fn.ntmps=n:=by rfl) (ha:Nat.ble args.size n=true:=by rfl):gV P f args w K :=
  gV.of hf hb hn ha (LS args ▸ h _)
inductive oD (l:List (Nat×Value)):List Nat→List (Nat×Value)→Prop
  | nil:oD l [] []
  | cons {d:Nat} {v:Value} {ds:List Nat} {m:List (Nat×Value)} (h:yI l d=some v) (t:oD l ds m):oD l (d::ds) ((d,v)::m)
theorem oD.en {e:Env} {l:List (Nat×Value)}:∀ {ds:List Nat} {m:List (Nat×Value)},oD l ds m→En (iq e l) m
  | _,_,.nil=>trivial
  | _,_,.cons h t=>⟨ua h,t.en⟩
section
variable {P:Program} {n:Nat} {Q Q':kV} {e:Env} {l:List (Nat×Value)} {w w0:World} {F0:List Nat} {L:List Item} {ops:Array Oper} {rest:List Oper} {ty:TypeId} {pos:String} {aft:Array Edge} {d:Nat} {v:Value}
theorem sA {E:Env} (h:E=iq e l):kP E d v=iq e ((d,v)::l):=by subst h;rfl
theorem LW.nr {E:Env} (hE:E=iq e l) (h:LW P n ops Q rest (iq e ((d,v)::l)) w):LW P n ops Q rest (kP E d v) w:=by subst hE;exact h
theorem CW.nr {E:Env} {c:Code} (hE:E=iq e l) (h:CW P n c Q (iq e ((d,v)::l)) w):CW P n c Q (kP E d v) w:=by subst hE;exact h
theorem LW.fl (ds:List Nat) {E:Env} {m:List (Nat×Value)} (k:∀ e',LW P n ops Q rest (iq e' m) w) (hE:E=iq e l:=by repeat (first | (with_reducible exact rfl) | (with_reducible apply sA))) (h:oD l ds m:=by repeat (first | exact oD.nil | (apply oD.cons;rfl))):LW P n ops Q rest E w:=by subst hE;exact LW.fresh h.en k
theorem CW.fl (ds:List Nat) {E:Env} {m:List (Nat×Value)} {c:Code} (k:∀ e',CW P n c Q (iq e' m) w) (hE:E=iq e l:=by repeat (first | (with_reducible exact rfl) | (with_reducible apply sA))) (h:oD l ds m:=by repeat (first | exact oD.nil | (apply oD.cons;rfl))):CW P n c Q E w:=by subst hE;exact CW.fresh h.en k
theorem LW.mv {x:Operand} (hx:ks l x=some v) (hd:Nat.ble (d+1) n=true) (h:LW P n ops Q rest (iq e ((d,v)::l)) w):LW P n ops Q (⟨some d,.move x,ty,pos,aft,none⟩::rest) (iq e l) w :=
  LW.p (by simp [pv,ji hx]) hd h
theorem LW.as {x:Operand} (hx:ks l x=some v) (hd:Nat.ble (d+1) n=true) (h:LW P n ops Q rest (iq e ((d,v)::l)) w):LW P n ops Q (⟨some d,.assign x,ty,pos,aft,none⟩::rest) (iq e l) w :=
  LW.p (by simp [pv,ji hx]) hd h
theorem LW.bin {o:BinOp} {t u:TypeId} {x y:Operand} {k k':IntKind} {a b:Int} (hx:ks l x=some (.int k a)) (hy:ks l y=some (.int k' b)) (hv:(bif D7 k k' then Lg o k a b else none)=some v) (hd:Nat.ble (d+1) n=true)
    (h:LW P n ops Q rest (iq e ((d,v)::l)) w):LW P n ops Q (⟨some d,.binOp o t x y u,ty,pos,aft,none⟩::rest) (iq e l) w :=
  LW.p (by simp only [pv,ji hx,ji hy];exact hv) hd h
theorem LW.not {t:TypeId} {x:Operand} {b:Bool} (hx:ks l x=some (.bool b)) (hd:Nat.ble (d+1) n=true) (h:LW P n ops Q rest (iq e ((d,.bool (!b))::l)) w):LW P n ops Q (⟨some d,.unOp .not t x,ty,pos,aft,none⟩::rest) (iq e l) w :=
  LW.p (by simp [pv,ji hx]) hd h
theorem LW.neg {t:TypeId} {x:Operand} {k:IntKind} {a:Int} (hx:ks l x=some (.int k a)) (hd:Nat.ble (d+1) n=true) (h:LW P n ops Q rest (iq e ((d,.int k (k.wrap (0 - a)))::l)) w):LW P n ops Q (⟨some d,.unOp .neg t x,ty,pos,aft,none⟩::rest) (iq e l) w :=
  LW.p (by simp [pv,ji hx]) hd h
theorem LW.ext {x:Operand} {i:Nat} {vs:Array Value} (hx:ks l x=some (.tuple vs)) (hv:Cd vs.toList i=some v) (hd:Nat.ble (d+1) n=true) (h:LW P n ops Q rest (iq e ((d,v)::l)) w):LW P n ops Q (⟨some d,.extract x i,ty,pos,aft,none⟩::rest) (iq e l) w :=
  LW.p (by simp only [pv,ji hx];exact hv) hd h
theorem LW.fa {t:TypeId} {x:Operand} {k off g o:Nat} {a:Option Nat} (hf:fo P t k=some (off,a)) (hx:ks l x=some (.pointer (some ⟨g,o,none⟩))) (hd:Nat.ble (d+1) n=true)
    (h:LW P n ops Q rest (iq e ((d,.pointer (some ⟨g,o+off,none⟩))::l)) w):LW P n ops Q (⟨some d,.fieldAddr t x k,ty,pos,aft,none⟩::rest) (iq e l) w:=LW.u (il.fa hf (ji hx)) hd h
theorem LW.nc {x:Operand} {a:Addr} (hx:ks l x=some (.pointer (some a))) (hd:Nat.ble (d+1) n=true) (h:LW P n ops Q rest (iq e ((d,.pointer (some a))::l)) w):LW P n ops Q (⟨some d,.nilCheck x,ty,pos,aft,none⟩::rest) (iq e l) w:=LW.u (il.nc (ji hx)) hd h
theorem LW.len {t el:TypeId} {x:Operand} {a:Option Addr} {m c:Nat} (ht:P.underlying t=some (.slice el)) (hx:ks l x=some (.slice a m c)) (hd:Nat.ble (d+1) n=true) (h:LW P n ops Q rest (iq e ((d,.int .i64 (m:Int))::l)) w) :
    LW P n ops Q (⟨some d,.call { callee:=.builtin .len,args:=#[x],argTypes:=#[t] },ty,pos,aft,none⟩::rest) (iq e l) w:=LW.u (il.len ht (ji hx)) hd h
theorem LW.JO {c a b:Operand} {t:Bool} (hc:ks l c=some (.bool t)) (ht:t=true) (ha:ks l a=some v) (hd:Nat.ble (d+1) n=true) (h:LW P n ops Q rest (iq e ((d,v)::l)) w):LW P n ops Q (⟨some d,.pick c a b,ty,pos,aft,none⟩::rest) (iq e l) w:=by
  refine LW.u (il.Lq (ji hc) ht) hd ?_;rw [ji ha];exact h
theorem LW.Jo {c a b:Operand} {t:Bool} (hc:ks l c=some (.bool t)) (ht:t=false) (ha:ks l b=some v) (hd:Nat.ble (d+1) n=true) (h:LW P n ops Q rest (iq e ((d,v)::l)) w):LW P n ops Q (⟨some d,.pick c a b,ty,pos,aft,none⟩::rest) (iq e l) w:=by
  refine LW.u (il.Ld (ji hc) ht) hd ?_;rw [ji ha];exact h
theorem LW.ld {t bt:TypeId} {x:Operand} {g o:Nat} {cs:List Value} (hx:ks l x=some (.pointer (some ⟨g,o,none⟩))) (hS:St w0 F0 w L) (hm:∃ i:Nat,L[i]?=some (bx g bt cs)) (ht:jx P t=some none) (hv:wX cs o=some v) (hd:Nat.ble (d+1) n=true)
    (h:LW P n ops Q rest (iq e ((d,v)::l)) w):LW P n ops Q (⟨some d,.load t x,ty,pos,aft,none⟩::rest) (iq e l) w:=by
  obtain ⟨i,hi⟩:=hm;exact LW.O9 hS i hi ht (ji hx) hv hd h
theorem LW.IP {t bt:TypeId} {x:Operand} {g o m:Nat} {cs:List Value} (hx:ks l x=some (.pointer (some ⟨g,o,none⟩))) (hS:St w0 F0 w L) (hm:∃ i:Nat,L[i]?=some (bx g bt cs)) (ht:jx P t=some (some m)) (hl:Nat.ble (o+m) cs.length=true) (hd:Nat.ble (d+1) n=true)
    {vs:List Value} (hn:Nf (sI cs o m) vs) (h:LW P n ops Q rest (iq e ((d,.agg vs.toArray)::l)) w):LW P n ops Q (⟨some d,.load t x,ty,pos,aft,none⟩::rest) (iq e l) w:=by
  obtain ⟨i,hi⟩:=hm;cases hn.eq;exact LW.OH hS i hi ht (ji hx) hl hd h
theorem LW.yes {op:Op} {dd:Option Tmp} {j q:Nat} {b t:Bool} (hd:(ops[j]?).bind (·.dst)=some q) (hv:yI l q=some (.bool t)) (ht:t=b) (h:LW P n ops Q (⟨dd,op,ty,pos,aft,none⟩::rest) (iq e l) w) :
    LW P n ops Q (⟨dd,op,ty,pos,aft,some (j,b)⟩::rest) (iq e l) w:=LW.gY (lJ hd (ua hv) ht) h
theorem LW.no {op:Op} {j q:Nat} {b t:Bool} (hd:(ops[j]?).bind (·.dst)=some q) (hv:yI l q=some (.bool t)) (ht:t=!b) (hn:Nat.ble (d+1) n=true) (h:LW P n ops Q rest (iq e ((d,undef)::l)) w) :
    LW P n ops Q (⟨some d,op,ty,pos,aft,some (j,b)⟩::rest) (iq e l) w:=LW.gN (EI hd (ua hv) ht) hn h
theorem LW.JM {t el:TypeId} {x y:Operand} {b o m' c m:Nat} {k:IntKind} {i:Int} (ht:P.underlying t=some (.slice el)) (hm:nQ P el=some m) (hx:ks l x=some (.slice (some ⟨b,o,none⟩) m' c)) (hy:ks l y=some (.int k i)) (h0:0≤i) (h1:i<m') (hd:Nat.ble (d+1) n=true)
    (h:LW P n ops Q rest (iq e ((d,.pointer (some ⟨b,o+i.toNat * m,none⟩))::l)) w):LW P n ops Q (⟨some d,.indexAddr t x y,ty,pos,aft,none⟩::rest) (iq e l) w:=LW.u (il.ix ht hm (ji hx) (ji hy) h0 h1) hd h
theorem LW.MG {op:Op} {j q:Nat} {b:Bool} (hd:(ops[j]?).bind (·.dst)=some q) (hv:yI l q=some undef) (hn:Nat.ble (d+1) n=true) (h:LW P n ops Q rest (iq e ((d,undef)::l)) w) :
    LW P n ops Q (⟨some d,op,ty,pos,aft,some (j,b)⟩::rest) (iq e l) w:=LW.gN (A9 hd (ua hv)) hn h
def j7 (P:Program) (n:Nat) (ops:Array Oper) (Q:kV) (fuel:Nat) (E:pb) (listed:Array Bool) (i d:Nat) (op:Op) (e:Env) (w:World):Prop :=
  j8 ops listed i=true∧Nat.ble (d+1) n=true∧∃ v,((il P (ev e) op v∧AW P n ops Q fuel E (listed.setIfInBounds i true) (kP e d v) w)∨∃ C,iZ P (ev e) op C v∧C w∧AW P n ops Q fuel ((i,C)::E) (listed.setIfInBounds i true) (kP e d v) w)
def Jk (ops:Array Oper) (listed:Array Bool) (i:Nat):Bool :=
  !(j8 ops listed i) || match ops[i]? with
    | some o=>match o.op with
      | .call _=>true
      | .store _ _ _=>true
      | .box _ _=>true
      | .alloc _=>true
      | .makeSlice _ _ _=>true
      | .buildSlice _ _ _=>true
      | _=>false
    | none=>false
def I8 (ops:Array Oper) (listed:Array Bool) (b:Nat):Nat→Bool
  | 0=>true
  | k+1=>Jk ops listed (b+k)&&I8 ops listed b k
inductive Nx:Array Bool→Nat→Prop
  | start (m:Nat):Nx (Array.replicate m false) 0
  | set (a:Array Bool) (j:Nat):Nx (a.setIfInBounds j true) (j+1)
section
variable {fuel:Nat} {E:pb} {listed:Array Bool} {i b:Nat} {op:Op}
theorem j7.on {g:Option (Nat×Bool)} (hi:ops[i]?=some ⟨some d,op,ty,pos,aft,g⟩) (hw:oQ ops g e=true) (h:j7 P n ops Q fuel E listed i d op e w):AW P n ops Q (fuel+1) E listed e w:=by
  obtain ⟨hok,hd,v,⟨hp,h⟩ | ⟨C,hl,hC,h⟩⟩:=h
  · exact AW.u hi hok hw hd hp h
  · exact AW.take hi hok hw hd hl hC h
theorem AW.ME (h:AW P n ops Q fuel E listed e w):AW P n ops Q fuel E listed e w:=h
theorem AW.nr {E':Env} (hE:E'=iq e l) (h:AW P n ops Q fuel E listed (iq e ((d,v)::l)) w):AW P n ops Q fuel E listed (kP E' d v) w:=by subst hE;exact h
theorem AW.gN (k:Nat) (hx:Nx listed b) (hi:ops[b+k]?=some ⟨some d,op,ty,pos,aft,none⟩) (hsk:I8 ops listed b k=true) (h:j7 P n ops Q fuel E listed (b+k) d op (iq e l) w):AW P n ops Q (fuel+1) E listed (iq e l) w:=h.on hi rfl
theorem AW.gY (k:Nat) {j q:Nat} {t t':Bool} (hx:Nx listed b) (hi:ops[b+k]?=some ⟨some d,op,ty,pos,aft,some (j,t')⟩) (hsk:I8 ops listed b k=true) (hq:(ops[j]?).bind (·.dst)=some q) (hv:yI l q=some (.bool t)) (ht:t=t') (h:j7 P n ops Q fuel E listed (b+k) d op (iq e l) w):AW P n ops Q (fuel+1) E listed (iq e l) w:=h.on hi (lJ hq (ua hv) ht)
theorem AW.g0 (k:Nat) {j q:Nat} {t t':Bool} (hx:Nx listed b) (hi:ops[b+k]?=some ⟨some d,op,ty,pos,aft,some (j,t')⟩) (hsk:I8 ops listed b k=true) (hq:(ops[j]?).bind (·.dst)=some q) (hv:yI l q=some (.bool t)) (ht:t=!t') (hok:j8 ops listed (b+k)=true) (hd:Nat.ble (d+1) n=true)
    (h:AW P n ops Q fuel E (listed.setIfInBounds (b+k) true) (iq e ((d,undef)::l)) w):AW P n ops Q (fuel+1) E listed (iq e l) w:=AW.no hi hok (EI hq (ua hv) ht) hd h
theorem AW.gU (k:Nat) {j q:Nat} {t':Bool} (hx:Nx listed b) (hi:ops[b+k]?=some ⟨some d,op,ty,pos,aft,some (j,t')⟩) (hsk:I8 ops listed b k=true) (hq:(ops[j]?).bind (·.dst)=some q) (hv:yI l q=some undef) (hok:j8 ops listed (b+k)=true) (hd:Nat.ble (d+1) n=true)
    (h:AW P n ops Q fuel E (listed.setIfInBounds (b+k) true) (iq e ((d,undef)::l)) w):AW P n ops Q (fuel+1) E listed (iq e l) w:=AW.no hi hok (A9 hq (ua hv)) hd h
theorem j7.u (hp:il P (ev (iq e l)) op v) (hd:Nat.ble (d+1) n=true) (hok:j8 ops listed i=true) (h:AW P n ops Q fuel E (listed.setIfInBounds i true) (iq e ((d,v)::l)) w):j7 P n ops Q fuel E listed i d op (iq e l) w:=⟨hok,hd,v,.inl ⟨hp,h⟩⟩
theorem j7.mv {x:Operand} (hx:ks l x=some v) (hd:Nat.ble (d+1) n=true) (hok:j8 ops listed i=true) (h:AW P n ops Q fuel E (listed.setIfInBounds i true) (iq e ((d,v)::l)) w):j7 P n ops Q fuel E listed i d (.move x) (iq e l) w:=.u (.p (by simp [pv,ji hx])) hd hok h
theorem j7.as {x:Operand} (hx:ks l x=some v) (hd:Nat.ble (d+1) n=true) (hok:j8 ops listed i=true) (h:AW P n ops Q fuel E (listed.setIfInBounds i true) (iq e ((d,v)::l)) w):j7 P n ops Q fuel E listed i d (.assign x) (iq e l) w:=.u (.p (by simp [pv,ji hx])) hd hok h
theorem j7.bin {o:BinOp} {t u:TypeId} {x y:Operand} {k k':IntKind} {a b:Int} (hx:ks l x=some (.int k a)) (hy:ks l y=some (.int k' b)) (hv:(bif D7 k k' then Lg o k a b else none)=some v) (hd:Nat.ble (d+1) n=true) (hok:j8 ops listed i=true)
    (h:AW P n ops Q fuel E (listed.setIfInBounds i true) (iq e ((d,v)::l)) w):j7 P n ops Q fuel E listed i d (.binOp o t x y u) (iq e l) w:=.u (.p (by simp only [pv,ji hx,ji hy];exact hv)) hd hok h
theorem j7.not {t:TypeId} {x:Operand} {b:Bool} (hx:ks l x=some (.bool b)) (hd:Nat.ble (d+1) n=true) (hok:j8 ops listed i=true) (h:AW P n ops Q fuel E (listed.setIfInBounds i true) (iq e ((d,.bool (!b))::l)) w):j7 P n ops Q fuel E listed i d (.unOp .not t x) (iq e l) w:=.u (.p (by simp [pv,ji hx])) hd hok h
theorem j7.neg {t:TypeId} {x:Operand} {k:IntKind} {a:Int} (hx:ks l x=some (.int k a)) (hd:Nat.ble (d+1) n=true) (hok:j8 ops listed i=true) (h:AW P n ops Q fuel E (listed.setIfInBounds i true) (iq e ((d,.int k (k.wrap (0 - a)))::l)) w):j7 P n ops Q fuel E listed i d (.unOp .neg t x) (iq e l) w:=.u (.p (by simp [pv,ji hx])) hd hok h
theorem j7.ext {x:Operand} {j:Nat} {vs:Array Value} (hx:ks l x=some (.tuple vs)) (hv:Cd vs.toList j=some v) (hd:Nat.ble (d+1) n=true) (hok:j8 ops listed i=true) (h:AW P n ops Q fuel E (listed.setIfInBounds i true) (iq e ((d,v)::l)) w):j7 P n ops Q fuel E listed i d (.extract x j) (iq e l) w:=.u (.p (by simp only [pv,ji hx];exact hv)) hd hok h
theorem j7.fa {t:TypeId} {x:Operand} {k off g o:Nat} {a:Option Nat} (hf:fo P t k=some (off,a)) (hx:ks l x=some (.pointer (some ⟨g,o,none⟩))) (hd:Nat.ble (d+1) n=true) (hok:j8 ops listed i=true)
    (h:AW P n ops Q fuel E (listed.setIfInBounds i true) (iq e ((d,.pointer (some ⟨g,o+off,none⟩))::l)) w):j7 P n ops Q fuel E listed i d (.fieldAddr t x k) (iq e l) w:=.u (.fa hf (ji hx)) hd hok h
theorem j7.nc {x:Operand} {a:Addr} (hx:ks l x=some (.pointer (some a))) (hd:Nat.ble (d+1) n=true) (hok:j8 ops listed i=true) (h:AW P n ops Q fuel E (listed.setIfInBounds i true) (iq e ((d,.pointer (some a))::l)) w):j7 P n ops Q fuel E listed i d (.nilCheck x) (iq e l) w:=.u (.nc (ji hx)) hd hok h
theorem j7.len {t el:TypeId} {x:Operand} {a:Option Addr} {m c:Nat} (ht:P.underlying t=some (.slice el)) (hx:ks l x=some (.slice a m c)) (hd:Nat.ble (d+1) n=true) (hok:j8 ops listed i=true) (h:AW P n ops Q fuel E (listed.setIfInBounds i true) (iq e ((d,.int .i64 (m:Int))::l)) w) :
    j7 P n ops Q fuel E listed i d (.call { callee:=.builtin .len,args:=#[x],argTypes:=#[t] }) (iq e l) w:=.u (.len ht (ji hx)) hd hok h
theorem j7.JO {c a b:Operand} {t:Bool} (hc:ks l c=some (.bool t)) (ht:t=true) (ha:ks l a=some v) (hd:Nat.ble (d+1) n=true) (hok:j8 ops listed i=true) (h:AW P n ops Q fuel E (listed.setIfInBounds i true) (iq e ((d,v)::l)) w):j7 P n ops Q fuel E listed i d (.pick c a b) (iq e l) w :=
  .u (ji ha ▸ il.Lq (ji hc) ht) hd hok h
theorem j7.Jo {c a b:Operand} {t:Bool} (hc:ks l c=some (.bool t)) (ht:t=false) (ha:ks l b=some v) (hd:Nat.ble (d+1) n=true) (hok:j8 ops listed i=true) (h:AW P n ops Q fuel E (listed.setIfInBounds i true) (iq e ((d,v)::l)) w):j7 P n ops Q fuel E listed i d (.pick c a b) (iq e l) w :=
  .u (ji ha ▸ il.Ld (ji hc) ht) hd hok h
theorem j7.JM {t el:TypeId} {x y:Operand} {b' o m' c m:Nat} {k:IntKind} {j:Int} (ht:P.underlying t=some (.slice el)) (hm:nQ P el=some m) (hx:ks l x=some (.slice (some ⟨b',o,none⟩) m' c)) (hy:ks l y=some (.int k j)) (h0:0≤j) (h1:j<m') (hd:Nat.ble (d+1) n=true) (hok:j8 ops listed i=true)
    (h:AW P n ops Q fuel E (listed.setIfInBounds i true) (iq e ((d,.pointer (some ⟨b',o+j.toNat * m,none⟩))::l)) w):j7 P n ops Q fuel E listed i d (.indexAddr t x y) (iq e l) w:=j7.u (il.ix ht hm (ji hx) (ji hy) h0 h1) hd hok h
theorem j7.ld {t bt:TypeId} {x:Operand} {g o:Nat} {cs:List Value} (hx:ks l x=some (.pointer (some ⟨g,o,none⟩))) (hS:St w0 F0 w L) (hm:∃ i:Nat,L[i]?=some (bx g bt cs)) (ht:jx P t=some none) (hv:wX cs o=some v) (hd:Nat.ble (d+1) n=true) (hok:j8 ops listed i=true)
    (h:AW P n ops Q fuel ((i,fun w=>w.heap[g]?=some (.cells cs.toArray bt (0,0)))::E) (listed.setIfInBounds i true) (iq e ((d,v)::l)) w):j7 P n ops Q fuel E listed i d (.load t x) (iq e l) w:=by
  obtain ⟨j,hj⟩:=hm;exact ⟨hok,hd,v,.inr ⟨_,iZ.box (bt:=bt) (fr:=(0,0)) ht (ji hx) hv,St.cell (h:=hS) (i:=j) hj,h⟩⟩
theorem j7.IP {t bt:TypeId} {x:Operand} {g o m:Nat} {cs:List Value} (hx:ks l x=some (.pointer (some ⟨g,o,none⟩))) (hS:St w0 F0 w L) (hm:∃ i:Nat,L[i]?=some (bx g bt cs)) (ht:jx P t=some (some m)) (hl:Nat.ble (o+m) cs.length=true) (hd:Nat.ble (d+1) n=true) {vs:List Value} (hn:Nf (sI cs o m) vs) (hok:j8 ops listed i=true)
    (h:AW P n ops Q fuel ((i,fun w=>w.heap[g]?=some (.cells cs.toArray bt (0,0)))::E) (listed.setIfInBounds i true) (iq e ((d,.agg vs.toArray)::l)) w):j7 P n ops Q fuel E listed i d (.load t x) (iq e l) w:=by
  obtain ⟨j,hj⟩:=hm;cases hn.eq;exact ⟨hok,hd,_,.inr ⟨_,iZ.Kf (bt:=bt) (fr:=(0,0)) ht (ji hx) hl,St.cell (h:=hS) (i:=j) hj,h⟩⟩
end
theorem LW.Ot {r:List Oper} {o:Oper} (h:LW P n ops Q (o::r) e w):LW P n ops Q (o::r) e w:=h
theorem LW.ex {r:List Oper} {o:Oper} (hr:rest=o::r) (h:LW P n ops Q (o::r) e w):LW P n ops Q rest e w:=by subst hr;exact h
theorem Lo {id:Nat} (h:Q .normal e w):D3 id Q (.exit id) e w:=by
  show (bif Nat.beq id id then Q .normal e w else Q (.exit id) e w)
  rw [Nat.beq_refl];exact h
theorem Ll {id id':Nat} (hn:Nat.beq id' id=false) (h:Q (.exit id') e w):D3 id Q (.exit id') e w:=by
  show (bif Nat.beq id' id then Q .normal e w else Q (.exit id') e w)
  rw [hn];exact h
theorem K1 {id:Nat} (h:Q .normal e w):D3 id Q .normal e w:=h
theorem Lv {id:Nat} (h:Q .ret e w):D3 id Q .ret e w:=h
theorem La {M:Env→World→Prop} (h:M e w):zq M Q .normal e w:=h
theorem K0 {M:Env→World→Prop} (h:Q .ret e w):zq M Q .ret e w:=h
theorem Le {id:Nat} {M:Env→World→Prop} (h:Q (.exit id) e w):zq M Q (.exit id) e w:=h
theorem LW.st {E:Env} {t bt:TypeId} {x y:Operand} {a:Option Nat} {g o:Nat} {cs vs cs':List Value} {L':List Item} (hS:St w0 F0 w L) (i:Nat) (h:∀ w':World,St w0 F0 w' L'→LW P n ops Q rest (iq e l) w')
    (hE:E=iq e l:=by repeat (first | (with_reducible exact rfl) | (with_reducible apply sA))) (hx:ks l x=some (.pointer (some ⟨g,o,none⟩)):=by rfl) (hi:L[i]?=some (bx g bt cs):=by rfl) (ht:jx P t=some a:=by exact kS.h) (hy:ks l y=some v:=by rfl)
    (hv:Nf v.cells.toList vs:=by repeat (first | ((with_reducible apply Nf.cons);rfl) | ((with_reducible apply Nf.nil);rfl))) (hm:vs.length=a.getD 1:=by rfl) (hl:Nat.ble (o+vs.length) cs.length=true:=by rfl) (h1:vs.all (·.oneCell')=true:=by rfl) (hc:Nf (yz cs o vs) cs':=by repeat (first | ((with_reducible apply Nf.cons);rfl) | ((with_reducible apply Nf.nil);rfl))) (hL:Nf (L.set i (bx g bt cs')) L':=by repeat (first | ((with_reducible apply Nf.cons);rfl) | ((with_reducible apply Nf.nil);rfl))) :
    LW P n ops Q (⟨none,.store t x y,ty,pos,aft,none⟩::rest) E w:=by
  subst hE;cases hv.eq;cases hc.eq;cases hL.eq;exact LW.On hS i hi ht (ji hx) (by rw [ji hy]) hm hl h1 fun w' hS' _=>h w' hS'
theorem LW.bo {E:Env} {t:TypeId} {x:Operand} {cs:List Value} (hS:St w0 F0 w L) (h:∀ (g:Nat) (w':World),St w0 F0 w' (bx g t cs::L)→LW P n ops Q rest (iq e ((d,.pointer (some ⟨g,0,none⟩))::l)) w')
    (hE:E=iq e l:=by repeat (first | (with_reducible exact rfl) | (with_reducible apply sA))) (hx:ks l x=some v:=by rfl) (hv:Nf v.cells.toList cs:=by repeat (first | ((with_reducible apply Nf.cons);rfl) | ((with_reducible apply Nf.nil);rfl))) (hd:Nat.ble (d+1) n=true:=by rfl):LW P n ops Q (⟨some d,.box t x,ty,pos,aft,none⟩::rest) E w:=by
  subst hE;cases hv.eq;exact LW.box (by rw [ji hx]) hS hd fun g w' hS' _=>h g w' hS'
theorem LW.al {E:Env} {t:TypeId} {cs:List Value} [z:vd P t] (hS:St w0 F0 w L) (h:∀ (g:Nat) (w':World),St w0 F0 w' (bx g t cs::L)→LW P n ops Q rest (iq e ((d,.pointer (some ⟨g,0,none⟩))::l)) w')
    (hE:E=iq e l:=by repeat (first | (with_reducible exact rfl) | (with_reducible apply sA))) (hv:Nf z.z.cells.toList cs:=by repeat (first | ((with_reducible apply Nf.cons);rfl) | ((with_reducible apply Nf.nil);rfl))) (hd:Nat.ble (d+1) n=true:=by rfl):LW P n ops Q (⟨some d,.alloc t,ty,pos,aft,none⟩::rest) E w:=by
  subst hE;cases hv.eq;exact LW.alloc z.h hS hd fun g w' hS' _=>h g w' hS'
theorem LW.se {α:Type} [hD α] {E:Env} {t:TypeId} {x y:Operand} {av:Option Nat} {g o0 off c:Nat} {l q:List α} {k:Int} {z z':α} {vs:Array Value} (o:Nat) (hS:St w0 F0 w L) (i:Nat) (hk:idx l k=some z) (hq:some (l.set k.toNat z')=some q)
    (h:∀ w':World,St w0 F0 w' (L.set i (sl (some ⟨g,o0,none⟩) c q))→LW P n ops Q rest E w')
    (hi:L[i]?=some (sl (some ⟨g,o0,none⟩) c l):=by rfl) (hx:ev E x=.pointer (some ⟨g,off,none⟩):=by rfl) (hy:(ev E y).cells=vs:=by rfl) (hoff:off=o0+k.toNat * hD.sz α+o:=by rfl) (ht:jx P t=some av:=by exact kS.h)
    (hm:vs.size=av.getD 1:=by rfl) (h1:vs.toList.all (·.oneCell')=true:=by rfl) (hold:Nat.ble (o+vs.size) (hD.sz α)=true:=by rfl)
    (hM:∀ (w:World) (cs:List Value) (F G:List Nat),hD.own w cs F z→iT [] w G→∃ F',hD.own w (cs.take o++vs.toList++cs.drop (o+vs.toList.length)) F' z'∧(∀ b,b ∈ F'→b ∈ F∨b ∈ G)∧(F.Nodup→G.Nodup→(∀ b,b ∈ F→b ∉ G)→F'.Nodup)):LW P n ops Q (⟨none,.store t x y,ty,pos,aft,none⟩::rest) E w :=
  LW.vl (M:=[]) (L:=L) hS hi hk ht hx hoff hy hm h1 hold hM fun w' hS' _=>h w' (by rwa [Option.some.inj hq] at hS')
theorem ui {α:Type} [hD α] {z z':α} {vs:Array Value} (hv:∀ w:World,hD.own w vs.toList [] z':=by exact fun _=>⟨rfl,rfl⟩):∀ (w:World) (cs:List Value) (F G:List Nat),hD.own w cs F z→iT [] w G→∃ F',hD.own w (cs.take 0++vs.toList++cs.drop (0+vs.toList.length)) F' z'∧(∀ b,b ∈ F'→b ∈ F∨b ∈ G)∧(F.Nodup→G.Nodup→(∀ b,b ∈ F→b ∉ G)→F'.Nodup) :=
  whole (fun w G hG=>by cases (show G=[] from hG);exact hv w)
theorem nO {a:Item} {l:List Item}:∃ i:Nat,(a::l)[i]?=some a:=⟨0,rfl⟩
theorem nP {a b:Item} {l:List Item} (h:∃ i:Nat,l[i]?=some a):∃ i:Nat,(b::l)[i]?=some a:=h.elim fun i hi=>⟨i+1,hi⟩
theorem CW.jn (ds is:List Nat) (xs:List (Nat×Value)) {E:Env} {m mm:List (Nat×Value)} {L':List Item} {c:Code} (hS:St w0 F0 w L)
    (hE:E=iq e l:=by repeat (first | (with_reducible exact rfl) | (with_reducible apply sA))) (hm:oD l ds m:=by repeat (first | exact oD.nil | (apply oD.cons;rfl))) (hmm:Nf (m++xs) mm:=by repeat (first | ((with_reducible apply Nf.cons);rfl) | ((with_reducible apply Nf.nil);rfl))) (hL:Nf ((l4 L is).getD []) L':=by repeat (first | ((with_reducible apply Nf.cons);rfl) | ((with_reducible apply Nf.nil);rfl)))
    (h1:CW P n c (zq (fun e' wb=>En e' mm∧St w0 F0 wb L') Q) E w) (h2:∀ e' wb,St w0 F0 wb L'→Q .normal (iq e' mm) wb):CW P n c Q E w :=
  CW.cut _ h1 fun e' wb ⟨hE',hS'⟩=>by obtain ⟨e2,rfl⟩:=hE'.out;exact h2 e2 wb hS'
section
variable {σ β:Type} {c:Code} {E:Env} {m:List (Nat×Value)} {g gb:σ→List (Nat×Value)} {L':List Item} {N:Nat} {init:σ}
abbrev RT (P:Program) (fr:Array ResultVar) (V:β→Value) (w0:World) (F0:List Nat) (r:β) (x:Exit) (e:Env) (w:World):Prop:=x=.ret∧∃ u,u=r∧∃ v,kz P fr e w v∧v=V u∧St w0 F0 w []
theorem CW.lb (ds is bs:List Nat) (kx:Nat) (f:σ→List (Nat×Value)) {body:σ→Option (σ⊕σ)} {o:σ} (hS:St w0 F0 w L) (ho:Kx.iter body N init=some o)
    (hE:E=iq e l:=by repeat (first | (with_reducible exact rfl) | (with_reducible apply sA))) (hm:oD l ds m:=by repeat (first | exact oD.nil | (apply oD.cons;rfl))) (hg:∀ s,Nf (m++f s) (g s):=by intro s;repeat (first | ((with_reducible apply Nf.cons);rfl) | ((with_reducible apply Nf.nil);rfl))) (hgb:∀ s,oD (g s) bs (gb s):=by intro s;repeat (first | exact oD.nil | (apply oD.cons;rfl))) (hL:Nf ((l4 L is).getD []) L':=by repeat (first | ((with_reducible apply Nf.cons);rfl) | ((with_reducible apply Nf.nil);rfl)))
    (h0:En (iq e l) (g init):=by repeat (first | exact trivial | (refine ⟨rfl,?_⟩))) (hp:l4 L is=some L':=by rfl) (hn:pS is=true:=by rfl)
    (hb:∀ (s:σ) (e':Env) (wb:World) (o':σ⊕σ),St w0 F0 wb L'→body s=some o'→CW P n c (fun x e w'=>match o' with
      | .inl s'=>x=.normal∧En e (g s')∧St w0 F0 w' L'
      | .inr r=>(match x with | .normal=>False | _=>True)∧x=.exit kx∧En e (gb r)∧St w0 F0 w' L') (iq e' (g s)) wb) :
    CW P n (.loop c) (fun x e wb=>x=.exit kx∧En e (gb o)∧St w0 F0 wb L') E w:=by
  subst hE
  exact CW.iter (fun s e wb=>En e (g s)∧St w0 F0 wb L') (fun r x e wb=>x=.exit kx∧En e (gb r)∧St w0 F0 wb L')
    (fun s e' wb o' ⟨hE',hS'⟩ hbd=>by obtain ⟨e2,rfl⟩:=hE'.out;exact (hb s e2 wb o' hS' hbd).mono fun x e w hq=>by rcases o' with _ | _<;>exact hq) N init _ w o ⟨h0,hS.pick is hp hn⟩ ho
theorem CW.lx (ds is bs:List Nat) (kx:Nat) (f:σ→List (Nat×Value)) (T:β→Exit→Env→World→Prop) {body:σ→Option (σ⊕(σ⊕β))} {o:σ⊕β} (hS:St w0 F0 w L) (ho:Kx.iter body N init=some o)
    (hE:E=iq e l:=by repeat (first | (with_reducible exact rfl) | (with_reducible apply sA))) (hm:oD l ds m:=by repeat (first | exact oD.nil | (apply oD.cons;rfl))) (hg:∀ s,Nf (m++f s) (g s):=by intro s;repeat (first | ((with_reducible apply Nf.cons);rfl) | ((with_reducible apply Nf.nil);rfl))) (hgb:∀ s,oD (g s) bs (gb s):=by intro s;repeat (first | exact oD.nil | (apply oD.cons;rfl))) (hL:Nf ((l4 L is).getD []) L':=by repeat (first | ((with_reducible apply Nf.cons);rfl) | ((with_reducible apply Nf.nil);rfl)))
    (h0:En (iq e l) (g init):=by repeat (first | exact trivial | (refine ⟨rfl,?_⟩))) (hp:l4 L is=some L':=by rfl) (hn:pS is=true:=by rfl)
    (hb:∀ (s:σ) (e':Env) (wb:World) (o':σ⊕(σ⊕β)),St w0 F0 wb L'→body s=some o'→CW P n c (fun x e w'=>match o' with
      | .inl s'=>x=.normal∧En e (g s')∧St w0 F0 w' L'
      | .inr r=>(match x with | .normal=>False | _=>True)∧match r with | .inl b=>x=.exit kx∧En e (gb b)∧St w0 F0 w' L' | .inr r=>T r x e w') (iq e' (g s)) wb) :
    CW P n (.loop c) (fun x e wb=>match o with | .inl b=>x=.exit kx∧En e (gb b)∧St w0 F0 wb L' | .inr r=>T r x e wb) E w:=by
  subst hE
  exact (CW.iter (fun s e wb=>En e (g s)∧St w0 F0 wb L') (fun r x e wb=>match r with | .inl b=>x=.exit kx∧En e (gb b)∧St w0 F0 wb L' | .inr r=>T r x e wb)
    (fun s e' wb o' ⟨hE',hS'⟩ hbd=>by obtain ⟨e2,rfl⟩:=hE'.out;exact (hb s e2 wb o' hS' hbd).mono fun x e w hq=>by rcases o' with _ | (_ | _)<;>exact hq) N init _ w o ⟨h0,hS.pick is hp hn⟩ ho).mono fun x e w hq=>by rcases o with _ | _<;>exact hq
end
theorem CW.it {σ ρ:Type} {c:Code} {body:σ→Option (σ⊕ρ)} {N:Nat} {s0:σ} {r:ρ} {Q':kV} (ho:Kx.iter body N s0=some r) (R:σ→Env→World→Prop) (Q:ρ→kV)
    (hb:∀ (s:σ) (e:Env) (w:World) (o:σ⊕ρ),R s e w→body s=some o→CW P n c (fun x e' w'=>match o with
      | .inl s'=>x=.normal∧R s' e' w'
      | .inr r=>(match x with | .normal=>False | _=>True)∧Q r x e' w') e w) (hR:R s0 e w) (k:∀ x e w,Q r x e w→Q' x e w):CW P n (.loop c) Q' e w :=
  CW.mono (CW.iter R Q hb N s0 e w r hR ho) k
theorem CW.ie {σ:Type} {c:Code} {body:σ→Option (σ⊕σ)} {N:Nat} {s0 r:σ} {Q':kV} (ho:Kx.iter body N s0=some r) (kx:Nat) (R:σ→Env→World→Prop)
    (hb:∀ (s:σ) (e:Env) (w:World) (o:σ⊕σ),R s e w→body s=some o→CW P n c (fun x e' w'=>match o with
      | .inl s'=>x=.normal∧R s' e' w'
      | .inr r=>(match x with | .normal=>False | _=>True)∧x=.exit kx∧R r e' w') e w) (hR:R s0 e w) (k:∀ e w,R r e w→Q' (.exit kx) e w):CW P n (.loop c) Q' e w :=
  CW.mono (CW.iter R (fun r x e w=>x=.exit kx∧R r e w) (fun s e w o h1 h2=>CW.mono (hb s e w o h1 h2) fun x e w h=>by cases o<;>exact h) N s0 e w r hR ho) (fun x e w h=>by obtain ⟨rfl,h⟩:=h;exact k e w h)
def CR (P:Program) (n:Nat) (c:Code) (Q:kV) (N:Nat) (e:Env) (w:World):Prop:=∀ a,Is a n e→Code.rounds P c (lift n Q) N a w
theorem CR.mono {c:Code} {N:Nat} {Q Q':kV} (h:CR P n c Q N e w) (hq:∀ x e w,Q x e w→Q' x e w):CR P n c Q' N e w:=by
  have key:∀ (N:Nat) (a:Act) (w:World),Code.rounds P c (lift n Q) N a w→Code.rounds P c (lift n Q') N a w:=by
    intro N
    induction N with
    | zero=>intro a w h;exact h
    | succ N ih =>
      intro a w h;rw [rounds_succ] at h ⊢;refine Code.wp_mono ?_ h;intro x a' w' h
      cases x with
      | normal=>exact ih a' w' h
      | _=>obtain ⟨hc,e',he',hq'⟩:=h;exact ⟨hc,e',he',hq _ _ _ hq'⟩
  exact fun a ha=>key N a w (h a ha)
theorem CR.iter {σ ρ:Type} {c:Code} {body:σ→Option (σ⊕ρ)} (R:σ→Env→World→Prop) (Q:ρ→kV)
    (hb:∀ (s:σ) (e:Env) (w:World) (o:σ⊕ρ),R s e w→body s=some o→CW P n c (fun x e' w'=>match o with
      | .inl s'=>x=.normal∧R s' e' w'
      | .inr r=>(match x with | .normal=>False | _=>True)∧Q r x e' w') e w)
    (N:Nat) (s:σ) (e:Env) (w:World) (r:ρ) (hR:R s e w) (h:Kx.iter body N s=some r):CR P n c (Q r) N e w:=by
  have key:∀ (N:Nat) (s:σ) (e:Env) (w:World),R s e w→Kx.iter body N s=some r→∀ a,Is a n e→Code.rounds P c (lift n (Q r)) N a w:=by
    intro N
    induction N with
    | zero=>intro s e w _ h;cases h
    | succ N ih =>
      intro s e w hR h a ha;obtain ⟨o,ho,h2⟩:=lO h;rw [rounds_succ];refine Code.wp_mono ?_ (hb s e w o hR ho a ha);rintro x a' w' ⟨hc,e',he',hq⟩
      cases o with
      | inl s' =>
        obtain ⟨rfl,hR'⟩:=hq;exact ih s' e' w' hR' h2 a' he'
      | inr r' =>
        cases h2
        cases x with
        | normal=>exact hq.1.elim
        | _=>exact ⟨hc,e',he',hq.2⟩
  exact fun a ha=>key N s e w hR h a ha
theorem fj {R:Value→Prop} {u:Value} (hS:St w0 F0 w L) (hR:R u:=by exact kz.one (ij.t rfl)):∃ v,R v∧v=u∧St w0 F0 w []:=⟨u,hR,rfl,hS.pick [] rfl rfl⟩
theorem fi {A:Prop} {R:Value→Prop} {u:Value} (hS:St w0 F0 w L) (hA:A:=by exact trivial) (hR:R u:=by exact kz.one (ij.t rfl)):A∧∃ v,R v∧v=u∧St w0 F0 w []:=⟨hA,fj hS hR⟩
theorem St.k4 (hS:St w0 F0 w L) (is js:List Nat) {L1 L2:List Item} (h1:Nf ((l4 L is).getD []) L1:=by repeat (first | ((with_reducible apply Nf.cons);rfl) | ((with_reducible apply Nf.nil);rfl))) (h2:Nf ((l4 L js).getD []) L2:=by repeat (first | ((with_reducible apply Nf.cons);rfl) | ((with_reducible apply Nf.nil);rfl))) (hp:l4 L (is++js)=some (L1++L2):=by rfl) (hn:pS (is++js)=true:=by rfl):∃ F,nR w0 F0 w L1 L2 F:=(hS.pick (is++js) hp hn).NG
theorem oi {α:Type} {a b:α} (h:some a=some b):a=b:=Option.some.inj h
theorem LW.cl {f:FuncId} {as:Array Operand} {ts:Array TypeId} {al:List Value} {K:Value→World→Prop} (q:gV P f al.toArray w K) (h:∀ v w',K v w'→LW P n ops Q rest (kP e d v) w')
    (hp:uG P f=true:=by kernel_rfl) (hd:Nat.ble (d+1) n=true:=by rfl) (hargs:as.toList.map (ev e)=al:=by rfl) :
    LW P n ops Q (⟨some d,.call { callee:=.value (.func f),args:=as,argTypes:=ts },ty,pos,aft,none⟩::rest) e w:=LW.call hp hd hargs (gV.mono q h)
theorem LW.c0 {f:FuncId} {as:Array Operand} {ts:Array TypeId} {al:List Value} {u:Value} (q:gV P f al.toArray w fun v w'=>v=u∧St w [] w' []) (hS:St w0 F0 w L) (h:∀ w',St w0 F0 w' L→LW P n ops Q rest (kP e d u) w')
    (hp:uG P f=true:=by kernel_rfl) (hd:Nat.ble (d+1) n=true:=by rfl) (hargs:as.toList.map (ev e)=al:=by rfl) :
    LW P n ops Q (⟨some d,.call { callee:=.value (.func f),args:=as,argTypes:=ts },ty,pos,aft,none⟩::rest) e w :=
  LW.cl q (fun v w' ⟨h1,h2⟩=>by subst h1;exact h w' (by simpa using hS.add h2)) hp hd hargs
theorem gI {A B:Prop} (a:A) (f:(Unit→A)→B:=by
    intro a
    (first
      | ((with_reducible apply j7.mv);rfl;rfl;(decide +kernel))
      | ((with_reducible apply j7.fa);(exact jB.h);rfl;rfl;(decide +kernel))
      | ((with_reducible apply j7.ld);rfl;assumption;(repeat (first | exact nO | apply nP));(exact kS.h);rfl;rfl;(decide +kernel))
      | ((with_reducible apply j7.bin);rfl;rfl;rfl;rfl;(decide +kernel))
      | ((with_reducible apply j7.JO);rfl;(first | assumption | rfl);rfl;rfl;(decide +kernel))
      | ((with_reducible apply j7.Jo);rfl;(first | assumption | rfl);rfl;rfl;(decide +kernel))
      | ((with_reducible apply j7.as);rfl;rfl;(decide +kernel))
      | ((with_reducible apply j7.IP);rfl;assumption;(repeat (first | exact nO | apply nP));(exact kS.h);rfl;rfl;(repeat (first | ((with_reducible apply Nf.cons);rfl) | ((with_reducible apply Nf.nil);rfl)));(decide +kernel))
      | ((with_reducible apply j7.len);(exact oF.h);rfl;rfl;(decide +kernel))
      | ((with_reducible apply j7.JM);(exact oF.h);(exact uu.h);rfl;rfl;assumption;assumption;rfl;(decide +kernel))
      | ((with_reducible apply j7.ext);rfl;rfl;rfl;(decide +kernel))
      | ((with_reducible apply j7.not);rfl;rfl;(decide +kernel))
      | ((with_reducible apply j7.neg);rfl;rfl;(decide +kernel))
      | ((with_reducible apply j7.nc);rfl;rfl;(decide +kernel)))
    exact a ()):B:=f fun _=>a
theorem gA {A B:Prop} (a:A) (f:(Unit→A)→B:=by
    intro a
    with_reducible apply AW.ME
    (first
      | ((apply AW.gN 0);(first | exact Nx.set _ _ | exact Nx.start _);rfl;rfl;refine gI ?_)
      | ((apply AW.gY 0);(first | exact Nx.set _ _ | exact Nx.start _);rfl;rfl;rfl;rfl;(first | assumption | rfl);refine gI ?_)
      | ((apply AW.g0 0);(first | exact Nx.set _ _ | exact Nx.start _);rfl;rfl;rfl;rfl;(first | assumption | rfl);(decide +kernel);rfl)
      | ((apply AW.gU 0);(first | exact Nx.set _ _ | exact Nx.start _);rfl;rfl;rfl;rfl;(decide +kernel);rfl)
      | ((apply AW.gN 1);(first | exact Nx.set _ _ | exact Nx.start _);rfl;(decide +kernel);refine gI ?_)
      | ((apply AW.gY 1);(first | exact Nx.set _ _ | exact Nx.start _);rfl;(decide +kernel);rfl;rfl;(first | assumption | rfl);refine gI ?_)
      | ((apply AW.g0 1);(first | exact Nx.set _ _ | exact Nx.start _);rfl;(decide +kernel);rfl;rfl;(first | assumption | rfl);(decide +kernel);rfl)
      | ((apply AW.gU 1);(first | exact Nx.set _ _ | exact Nx.start _);rfl;(decide +kernel);rfl;rfl;(decide +kernel);rfl)
      | ((apply AW.gN 2);(first | exact Nx.set _ _ | exact Nx.start _);rfl;(decide +kernel);refine gI ?_)
      | ((apply AW.gY 2);(first | exact Nx.set _ _ | exact Nx.start _);rfl;(decide +kernel);rfl;rfl;(first | assumption | rfl);refine gI ?_)
      | ((apply AW.g0 2);(first | exact Nx.set _ _ | exact Nx.start _);rfl;(decide +kernel);rfl;rfl;(first | assumption | rfl);(decide +kernel);rfl)
      | ((apply AW.gU 2);(first | exact Nx.set _ _ | exact Nx.start _);rfl;(decide +kernel);rfl;rfl;(decide +kernel);rfl)
      | ((apply AW.done);(decide +kernel)))
    exact a ()):B:=f fun _=>a
theorem go {A B:Prop} (a:A) (f:(Unit→A)→B:=by
    intro a
    repeat (first
      | ((with_reducible apply LW.nr);(repeat first | (with_reducible exact rfl) | (with_reducible apply sA)))
      | ((with_reducible apply LW.yes);rfl;rfl;(first | assumption | rfl))
      | ((with_reducible apply LW.no);rfl;rfl;(first | assumption | rfl);rfl)
      | ((with_reducible apply LW.mv);rfl;rfl)
      | ((with_reducible apply LW.fa);(exact jB.h);rfl;rfl)
      | ((with_reducible apply LW.ld);rfl;assumption;(repeat (first | exact nO | apply nP));(exact kS.h);rfl;rfl)
      | ((with_reducible apply LW.bin);rfl;rfl;rfl;rfl)
      | ((with_reducible apply LW.JO);rfl;(first | assumption | rfl);rfl;rfl)
      | ((with_reducible apply LW.Jo);rfl;(first | assumption | rfl);rfl;rfl)
      | ((with_reducible apply LW.as);rfl;rfl)
      | ((with_reducible apply LW.IP);rfl;assumption;(repeat (first | exact nO | apply nP));(exact kS.h);rfl;rfl;(repeat (first | ((with_reducible apply Nf.cons);rfl) | ((with_reducible apply Nf.nil);rfl))))
      | ((with_reducible apply LW.len);(exact oF.h);rfl;rfl)
      | ((with_reducible apply LW.JM);(exact oF.h);(exact uu.h);rfl;rfl;assumption;assumption;rfl)
      | ((with_reducible apply LW.MG);rfl;rfl;rfl)
      | ((with_reducible apply LW.ext);rfl;rfl;rfl)
      | ((with_reducible apply LW.not);rfl;rfl)
      | ((with_reducible apply LW.neg);rfl;rfl)
      | with_reducible apply LW.nil
      | ((with_reducible apply CW.nr);(repeat first | (with_reducible exact rfl) | (with_reducible apply sA)))
      | with_reducible apply CW.seq
      | with_reducible apply La
      | with_reducible apply Lo
      | with_reducible apply K1
      | with_reducible apply Lv
      | with_reducible apply Le
      | with_reducible apply K0
      | ((with_reducible apply Ll);(exact rfl))
      | with_reducible apply CW.region
      | with_reducible apply CW.skip
      | with_reducible apply CW.block
      | with_reducible apply CW.exit
      | (with_reducible apply CW.ret)
      | ((with_reducible apply AW.nr);(repeat first | (with_reducible exact rfl) | (with_reducible apply sA)))
      | refine gA ?_
      | ((fail_if_success (with_reducible apply LW.Ot));(with_reducible apply LW.ex);rfl))
    exact a ()):B:=f fun _=>a
theorem gs {A B:Prop} (a:A) (f:(Unit→A)→B:=by
    intro a
    repeat (first
      | ((with_reducible apply LW.nr);(repeat first | (with_reducible exact rfl) | (with_reducible apply sA)))
      | ((with_reducible apply LW.yes);rfl;rfl;(first | assumption | rfl))
      | ((with_reducible apply LW.no);rfl;rfl;(first | assumption | rfl);rfl)
      | ((with_reducible apply LW.mv);rfl;rfl)
      | ((with_reducible apply LW.fa);(exact jB.h);rfl;rfl)
      | ((with_reducible apply LW.ld);rfl;assumption;(repeat (first | exact nO | apply nP));(exact kS.h);rfl;rfl)
      | ((with_reducible apply LW.bin);rfl;rfl;rfl;rfl)
      | ((with_reducible apply LW.JO);rfl;(first | assumption | rfl);rfl;rfl)
      | ((with_reducible apply LW.Jo);rfl;(first | assumption | rfl);rfl;rfl)
      | ((with_reducible apply LW.as);rfl;rfl)
      | ((with_reducible apply LW.IP);rfl;assumption;(repeat (first | exact nO | apply nP));(exact kS.h);rfl;rfl;(repeat (first | ((with_reducible apply Nf.cons);rfl) | ((with_reducible apply Nf.nil);rfl))))
      | ((with_reducible apply LW.len);(exact oF.h);rfl;rfl)
      | ((with_reducible apply LW.JM);(exact oF.h);(exact uu.h);rfl;rfl;assumption;assumption;rfl)
      | ((with_reducible apply LW.MG);rfl;rfl;rfl)
      | ((with_reducible apply LW.ext);rfl;rfl;rfl)
      | ((with_reducible apply LW.not);rfl;rfl)
      | ((with_reducible apply LW.neg);rfl;rfl)
      | with_reducible apply LW.nil
      | ((with_reducible apply CW.nr);(repeat first | (with_reducible exact rfl) | (with_reducible apply sA)))
      | with_reducible apply CW.seq
      | with_reducible apply La
      | with_reducible apply Lo
      | with_reducible apply K1
      | with_reducible apply Lv
      | with_reducible apply Le
      | with_reducible apply K0
      | ((with_reducible apply Ll);(exact rfl))
      | with_reducible apply CW.skip
      | ((with_reducible apply AW.nr);(repeat first | (with_reducible exact rfl) | (with_reducible apply sA)))
      | refine gA ?_
      | ((fail_if_success (with_reducible apply LW.Ot));(with_reducible apply LW.ex);rfl))
    exact a ()):B:=f fun _=>a
end
section
variable {P:Program} {n:Nat} {Q:kV} {e:Env} {w w0 w':World} {F0:List Nat} {L:List Item} {ops:Array Oper} {fuel:Nat} {E:pb} {listed:Array Bool} {i j:Nat}
abbrev vI (n:Int):Value:=.int .i64 n
abbrev vS (a:Option Addr) (n c:Nat):Value:=.slice a n c
abbrev Ad:=Option Addr
theorem jO (i:Nat) {o:Oper} (h:LW P n ops (fun x e' w'=>x=.normal∧Kept ops i E w w'∧AW P n ops Q fuel E (listed.setIfInBounds i true) e' w') [o] e w) (ho:ops[i]?=some o:=by rfl) (hr:Region.ready .any ops listed=[i]:=by kernel_rfl):AW P n ops Q (fuel+1) E listed e w:=AW.one hr ⟨o,ho,h⟩
theorem jN (k:Kept ops j E w0 w) (h:AW P n ops Q fuel E (listed.setIfInBounds j true) e w):LW P n ops (fun x e' w'=>x=.normal∧Kept ops j E w0 w'∧AW P n ops Q fuel E (listed.setIfInBounds j true) e' w') [] e w:=LW.nil ⟨rfl,k,h⟩
theorem jW {C:World→Prop} (k:Kept ops i E w w') (h:waits ops i j=true:=by kernel_rfl):Kept ops i ((j,C)::E) w w':=.w h k
theorem jZ:Kept ops i [] w w':=.n
theorem St.ce (h:St w0 F0 w L) (i:Nat) {g:Nat} {ty:TypeId} {cs:List Value} (hi:L[i]?=some (bx g ty cs):=by rfl):w.heap[g]?=some (.cells cs.toArray ty (0,0)):=St.cell (h:=h) hi
theorem ob {α β:Type} {x:Option α} {f:α→Option β} {b:β} (h:x.bind f=some b):∃ a,x=some a∧f a=some b:=Option.bind_eq_some_iff.1 h
theorem ch {α:Type} {y z:Option α} {r:α} {c1 c2:Code} {x:Operand} {b:Bool} (h:(bif b then y else z)=some r) (h1:b=true→y=some r→CW P n c1 Q e w) (h2:b=false→z=some r→CW P n c2 Q e w) (hx:ev e x=.bool b:=by rfl):CW P n (.cond x c1 c2) Q e w:=CW.cond hx (fun q=>h1 q (O4 h q)) (fun q=>h2 q (Pb h q))
theorem St.pk (is:List Nat) {M:List Item} (h:St w0 F0 w L) (hp:l4 L is=some M:=by exact rfl) (hn:pS is=true:=by exact rfl):St w0 F0 w M:=h.pick is hp hn
theorem St.po (is:List Nat) {M:List Item} {A:Prop} (h:St w0 F0 w L) (hp:l4 L is=some M:=by exact rfl) (hn:pS is=true:=by exact rfl) (a:A:=by (repeat' (first | exact trivial | exact rfl | refine ⟨?_,?_⟩))):A∧St w0 F0 w M:=⟨a,h.pick is hp hn⟩
end
abbrev rb {α:Type} [hD α] (w:World) (a:Option Addr) (c:Nat) (l:List α):Prop:=iR (jA w []) w a c l
theorem gb {A B:Prop} {α β:Type} {x:Option α} {k:α→Option β} {b:β} (h:x.bind k=some b) (g:∀ y,x=some y→k y=some b→A) (f:autoParam ((Unit→A)→B) go._auto_1):B:=f fun _=>by
  obtain ⟨y,h1,h2⟩:=Option.bind_eq_some_iff.1 h;exact g y h1 h2
section
variable {P:Program} {n:Nat} {ops:Array Oper} {Q:kV} {rest:List Oper} {e:Env} {w:World} {d:Nat} {ty:TypeId} {pos:String} {aft:Array Edge} {t el:TypeId} {x y:Operand} {b o l c m:Nat} {k:IntKind} {i:Int}
theorem ix [hu:oF P t (.slice el)] [hz:uu P el m] (h0:0≤i) (h1:i<l) (h:LW P n ops Q rest (kP e d (.pointer (some ⟨b,o+i.toNat * m,none⟩))) w) (hx:ev e x=.slice (some ⟨b,o,none⟩) l c:=by rfl) (hy:ev e y=.int k i:=by rfl) (hd:Nat.ble (d+1) n=true:=by rfl) :
    LW P n ops Q (⟨some d,.indexAddr t x y,ty,pos,aft,none⟩::rest) e w:=LW.u (il.ix hu.h hz.h hx hy h0 h1) hd h
end
end Go.Kx
namespace Go.Kx
open Go Go.RowKit
set_option linter.unusedVariables false
set_option linter.unusedSimpArgs false
section
variable {α:Type} [hD α] {P:Program} {n:Nat} {Q:kV} {e:Env} {w w0:World} {F0:List Nat} {L:List Item} {ops:Array Oper} {rest:List Oper} {ty:TypeId} {pos:String} {aft:Array Edge} {d:Nat}
theorem il.OI {ρ:Operand→Value} {t:TypeId} {x lo hi mx:Operand} {a:Option Addr} {c:Nat} {l m:List α} {i j:Int} {k1 k2 k3:IntKind} (hT:P.underlying t=some (.slice (hD.ty α))) (hz:nQ P (hD.ty α)=some (hD.sz α)) (hx:ρ x=.slice a l.length c)
    (hlo:ρ lo=.int k1 i) (hhi:ρ hi=.int k2 j) (hmx:ρ mx=.int k3 (l.length:Int)) (hs:Kx.sub l i j=some m) (hlc:l.length≤c):il P ρ (.slice t x (some lo) (some hi) (some mx)) (.slice (if l.length=i.toNat then a else a.map fun b=>b.add (i.toNat * hD.sz α)) m.length (l.length - i.toNat)):=by
  obtain ⟨h1,h2,h3,rfl,hm⟩:=qI hs;intro d ty pos aft gd w;rw [hm]
  cases hi':P.info? (hD.ty α) with
  | none=>simp [nQ,hi'] at hz
  | some inf =>
    have hz':inf.size=hD.sz α:=by simpa [nQ,hi'] using hz
    have h4:0≤j:=by omega
    have h5:j≤(c:Int):=by omega
    have h6:i≤(j.toNat:Int):=by omega
    have h7:(l.length:Int)≤(c:Int):=by omega
    have hb:(Instr.sliceBounds true l.length c (some (ρ lo)) (some (ρ hi)) (some (ρ mx))).run P w=.ok (i.toNat,j.toNat,l.length) w:=by
      simp [Instr.sliceBounds,Instr.sliceBound,hlo,hhi,hmx,asIntOf,h1,h2,h3,h4,h5,h6,h7]
      try omega
    simp [execOp,Instr.sliceAt,Instr.slice,run_underlying hT,hx,hb,sizeOf,typeInfo,hi',hz']
theorem il.OU {ρ:Operand→Value} {t:TypeId} {x lo hi:Operand} {a:Option Addr} {c k:Nat} {i j:Int} {k1 k2:IntKind} (hT:P.underlying t=some (.slice (hD.ty α))) (hz:nQ P (hD.ty α)=some (hD.sz α)) (hx:ρ x=.slice a k c)
    (hlo:ρ lo=.int k1 i) (hhi:ρ hi=.int k2 j) (h1:0≤i) (h2:i≤j) (h5:j≤(c:Int)):il P ρ (.slice t x (some lo) (some hi) none) (.slice (m5 a c i.toNat (hD.sz α)) (j.toNat - i.toNat) (c - i.toNat)):=by
  intro d ty pos aft gd w
  cases hi':P.info? (hD.ty α) with
  | none=>simp [nQ,hi'] at hz
  | some inf =>
    have hz':inf.size=hD.sz α:=by simpa [nQ,hi'] using hz
    have h4:0≤j:=by omega
    have h6:i≤(j.toNat:Int):=by omega
    have hb:(Instr.sliceBounds true k c (some (ρ lo)) (some (ρ hi)) none).run P w=.ok (i.toNat,j.toNat,c) w:=by
      simp [Instr.sliceBounds,Instr.sliceBound,hlo,hhi,asIntOf,h1,h2,h4,h5,h6]
      try omega
    have hcu:(if c=i.toNat then a else a.map fun b=>b.add (i.toNat * inf.size))=m5 a c i.toNat (hD.sz α):=by unfold m5;rw [hz']
    simp [execOp,Instr.sliceAt,Instr.slice,run_underlying hT,hx,hb,sizeOf,typeInfo,hi', ← hcu]
theorem FM {t ty:TypeId} (hT:lY P t α) {g o:Nat} {c:Nat} {F G:List Nat} {l ys:List α} (ho:mo w (some ⟨g,o,none⟩) c F l) {ad:Addr} {cc:Nat} {news:List Value}
    (hl:news.length=ys.length * hD.sz α) (hnews:∀ (j:Nat) (u:Value),news[j]?=some u→w.cell? (ad.add j)=some u) (hels:jJ w news G ys)
    (hn:(F++G).Nodup) (hlt:∀ b,b ∈ F++G→b<w.heap.size) (hroom:l.length+ys.length≤c) :
    ∃ w',(Builtin.append_ #[t,t] ty #[.slice (some ⟨g,o,none⟩) l.length c,.slice (some ad) ys.length cc]).run P w=.ok (.slice (some ⟨g,o,none⟩) (l++ys).length c) w'∧St w (F++G) w' [sl (some ⟨g,o,none⟩) c (l++ys)]:=by
  obtain ⟨i,z,hi,hz,hs,hby,hzc⟩:=hT.info;have h1:∀ u,u ∈ news→u.oneCell'=true:=fun u hu=>jJ.one hels u (by rw [← hl,List.take_length];exact hu);obtain ⟨n1,n2,nd⟩:=List.nodup_append.1 hn
  rcases ho with ⟨ha,_⟩ | ⟨g',o',cur,F',ha,hg,hs',k1,k2,rfl,he⟩
  · cases ha
  · cases ha;obtain ⟨q1,q2⟩:=he.take;obtain ⟨m1,m2⟩:=List.nodup_cons.1 n1
    have hdl:(cur.toList.drop o).length=cur.size - o:=by rw [List.length_drop,Array.length_toList]
    have hfit:o+l.length * hD.sz α+news.length≤cur.size:=by
      have:(l.length+ys.length) * hD.sz α≤c * hD.sz α:=Nat.mul_le_mul_right _ hroom;rw [Nat.add_mul] at this;omega
    have hfc:=run_firstCells_some (P:=P) w (hD.sz α) ys.length ad ys.length cc news hl hnews;have hst:=run_storeCells_at P g (o+l.length * hD.sz α) (hD.ty α) news 0 cur w hg (by simpa using hfit) (fun u hu=>h1 u hu);simp only [Nat.add_zero] at hst;refine ⟨w.setRow g (cur.toList.take (o+l.length * hD.sz α)++news++cur.toList.drop (o+l.length * hD.sz α+news.length)).toArray,?_,?_⟩
    · simp [Builtin.append_,run_underlying hT.Bc,sizeOf,typeInfo,hi,Builtin.lenOf,hroom,hs,hfc,add_lit,hst]
    · have hoth:∀ b,b ≠ g→(w.setRow g (cur.toList.take (o+l.length * hD.sz α)++news++cur.toList.drop (o+l.length * hD.sz α+news.length)).toArray).heap[b]?=w.heap[b]?:=fun b hb=>setRow_other w g b _ hb
      refine St.wE (G:=g::(F'++G)) (by simp) rfl rfl rfl (fun b _ hno=>hoth b fun e=>hno (by simp [e]))
        ⟨g::(F'++G),[],by simp,.inr ⟨g,o,_,F'++G,rfl,setRow_heap w g cur _ _ _ hg,?_,by simpa using hroom,k2,rfl,?_⟩,rfl⟩ ?_ ?_
      · simp only [List.size_toArray,List.length_append,List.length_take,List.length_drop,Array.length_toList];omega
      · have e:(cur.toList.take (o+l.length * hD.sz α)++news++cur.toList.drop (o+l.length * hD.sz α+news.length)).drop o=((cur.toList.drop o).take (l.length * hD.sz α)++news)++cur.toList.drop (o+l.length * hD.sz α+news.length):=by
          rw [List.append_assoc,List.drop_append_of_le_length (by have hcl:cur.toList.length=cur.size:=Array.length_toList;rw [List.length_take];omega),List.drop_take,Nat.add_sub_cancel_left, ← List.append_assoc]
        simp only [List.toList_toArray] at e ⊢;rw [e];refine jJ.more (jJ.append.2 ⟨_,news,F',G,rfl,rfl,by rw [List.length_take];omega,q1.frame (fun b h=>hoth b fun e=>m1 (e ▸ h)),hels.frame (fun b h=>hoth b fun e=>nd g (by simp) b h e.symm)⟩) _
      · refine List.nodup_cons.2 ⟨fun hm=>?_,List.nodup_append.2 ⟨m2,n2,fun a ha b hb e=>nd a (by simp [ha]) b hb e⟩⟩
        rcases List.mem_append.1 hm with h | h
        · exact m1 h
        · exact nd g (by simp) g h rfl
      · intro b hbm
        have:b ∈ (g::F')++G:=by simpa using hbm
        exact ⟨.inl this,by simpa using hlt b this⟩
theorem FQ {t ty:TypeId} (hT:lY P t α) {g o:Nat} {c k ck:Nat} {F:List Nat} {l:List α} (ho:mo w (some ⟨g,o,none⟩) c F l) (hlt:∀ b,b ∈ F→b<w.heap.size) (hn:F.Nodup) (hk:0<k) (hroom:l.length+k≤c) :
    ∃ w',(Builtin.clear_ #[t] ty #[.slice (some ⟨g,o+l.length * hD.sz α,none⟩) k ck]).run P w=.ok (.tuple #[]) w'∧St w F w' [sl (some ⟨g,o,none⟩) c l]:=by
  obtain ⟨i,z,hi,hz,hs,hby,hzc⟩:=hT.info
  have hzs:z.cells.size=hD.sz α:=by rw [← Array.length_toList,hzc];exact hD.ja (hD.jl w)
  rcases ho with ⟨ha,_⟩ | ⟨g',o',cur,F',ha,hg,hs',k1,k2,rfl,he⟩
  · cases ha
  · cases ha;obtain ⟨q1,q2⟩:=he.take;obtain ⟨m1,m2⟩:=List.nodup_cons.1 hn;obtain ⟨news,hnews⟩:∃ news,news=(Builtin.zeroCells z.cells k).toList:=⟨_,rfl⟩
    have hl:news.length=k * hD.sz α:=by rw [hnews,Array.length_toList,size_zeroCells,hzs]
    have h1:∀ u,u ∈ news→u.oneCell'=true:=by
      intro u hu;have h0:=jJ.one (jJ.HB (w:=w) (α:=α) 1) u
      have:u ∈ z.cells.toList:=by
        rw [hnews] at hu;obtain ⟨i,hi,rfl⟩:=List.mem_iff_getElem.1 hu
        have hpos:0<z.cells.size:=by rw [hzs];exact hD.pos
        simp only [Builtin.zeroCells,Array.getElem_toList,Array.getElem_map,Array.getElem_range];rw [getElem!_pos z.cells _ (Nat.mod_lt _ hpos)];exact Array.getElem_mem_toList _
      rw [hzc] at this;have hzl:(hD.zc α).length=hD.sz α:=hD.ja (hD.jl w);refine h0 ?_;rw [show (List.replicate 1 (hD.zero:α)).length * hD.sz α=(hD.zc α).length by rw [hzl];simp];simpa using this
    have hdl:(cur.toList.drop o).length=cur.size - o:=by rw [List.length_drop,Array.length_toList]
    have hfit:o+l.length * hD.sz α+news.length≤cur.size:=by
      have:(l.length+k) * hD.sz α≤c * hD.sz α:=Nat.mul_le_mul_right _ hroom;rw [Nat.add_mul] at this;omega
    have hst:=run_storeCells_at P g (o+l.length * hD.sz α) (hD.ty α) news 0 cur w hg (by simpa using hfit) (fun u hu=>h1 u hu);simp only [Nat.add_zero] at hst;refine ⟨w.setRow g (cur.toList.take (o+l.length * hD.sz α)++news++cur.toList.drop (o+l.length * hD.sz α+news.length)).toArray,?_,?_⟩
    · obtain ⟨k',rfl⟩:∃ k',k=k'+1:=⟨k - 1,by omega⟩;rw [List.append_assoc] at hst;simp [Builtin.clear_,run_underlying hT.Bc,zeroValue,typeInfo,hi,hz, ← hnews,hst]
    · have hoth:∀ b,b ≠ g→(w.setRow g (cur.toList.take (o+l.length * hD.sz α)++news++cur.toList.drop (o+l.length * hD.sz α+news.length)).toArray).heap[b]?=w.heap[b]?:=fun b hb=>setRow_other w g b _ hb
      refine St.wE (G:=g::F') (by simp) rfl rfl rfl (fun b _ hno=>hoth b fun e=>hno (by simp [e]))
        ⟨g::F',[],by simp,.inr ⟨g,o,_,F',rfl,setRow_heap w g cur _ _ _ hg,?_,by omega,k2,rfl,?_⟩,rfl⟩ hn ?_
      · simp only [List.size_toArray,List.length_append,List.length_take,List.length_drop,Array.length_toList];omega
      · have e:(cur.toList.take (o+l.length * hD.sz α)++news++cur.toList.drop (o+l.length * hD.sz α+news.length)).drop o=((cur.toList.drop o).take (l.length * hD.sz α)++news)++cur.toList.drop (o+l.length * hD.sz α+news.length):=by
          rw [List.append_assoc,List.drop_append_of_le_length (by have hcl:cur.toList.length=cur.size:=Array.length_toList;rw [List.length_take];omega),List.drop_take,Nat.add_sub_cancel_left, ← List.append_assoc]
        simp only [List.toList_toArray] at e ⊢;rw [e];have hm:=jJ.more (q1.frame (fun b h=>hoth b fun e=>m1 (e ▸ h))) (news++cur.toList.drop (o+l.length * hD.sz α+news.length))
        rwa [← List.append_assoc] at hm
      · intro b hbm;exact ⟨.inl hbm,by simpa using hlt b hbm⟩
theorem I5 {g o c i m:Nat}:∃ ad,m5 (some ⟨g,o,none⟩) c i m=some ad:=by
  unfold m5;split<;>exact ⟨_,rfl⟩
theorem JJ {L:List Item} {k:Nat} {y:Item} (h:L[k]?=some y):L.set k y=L:=by
  apply List.ext_getElem? fun i=>?_;rw [List.getElem?_set];split
  · rename_i e;subst e;rw [if_pos (je h),h]
  · rfl
theorem LW.OL [Flat α] {t:TypeId} {x y:Operand} {k:Nat} {a a1 a2:Option Addr} {c c1 c2:Nat} {l m0 m1 m2:List α} {i j:Int} (hT:lY P t α) (hS:St w0 F0 w L) (hi:L[k]?=some (sl a c l))
    (h0:Kx.sub l i j=some m0) (hij:(i==j)=false) (h1:Kx.sub l 0 i=some m1) (h2:Kx.sub l j (l.length:Int)=some m2)
    (hx:ev e x=.slice a1 m1.length c1) (e1:a1=m5 a c (0:Int).toNat (hD.sz α)) (f1:c1=c - (0:Int).toNat) (hy:ev e y=.slice a2 m2.length c2) (e2:a2=m5 a c j.toNat (hD.sz α)) (f2:c2=c - j.toNat) (hd:Nat.ble (d+1) n=true)
    (h:∀ w':World,St w0 F0 w' (L.set k (sl a c (m1++m2)))→LW P n ops Q rest (kP e d (.slice a (m1++m2).length c)) w') :
    LW P n ops Q (⟨some d,.call { callee:=.builtin .append,args:=#[x,y],argTypes:=#[t,t] },ty,pos,aft,none⟩::rest) e w:=by
  have hij:i ≠ j:=by simpa using hij
  obtain ⟨b0,b1,b2,_,_⟩:=qI h0;obtain ⟨_,_,_,_,z1⟩:=qI h1;obtain ⟨_,_,_,_,z2⟩:=qI h2;have hle:=(hS.rI k hi).le;have rd2:=(hS.rI k hi).sub h2
  obtain ⟨g,o,rfl⟩:∃ g o,a=some ⟨g,o,none⟩:=by
    obtain ⟨F,hF,_,_⟩:=hS.own;obtain ⟨Fi,q,_⟩:=hF.at_ k hi
    rcases q with ⟨_,_,hl,_⟩ | ⟨g,o,_,_,ha,_⟩
    · rw [hl] at b2;simp at b2;omega
    · exact ⟨g,o,ha⟩
  have hs0:m5 (some (⟨g,o,none⟩:Addr)) c (0:Int).toNat (hD.sz α)=some ⟨g,o,none⟩:=by
    unfold m5;rw [if_neg (by simp;omega)];simp [add_lit]
  obtain ⟨_,a',c',ea,ec,hS1⟩:=hS.vt k hi h1;rw [hs0] at ea e1;simp only [Int.toNat_zero,Nat.sub_zero] at ec f1;subst ea;subst ec;subst e1;subst f1;have hkl:=je hi;have hi1:(L.set k (sl (some ⟨g,o,none⟩) c1 m1))[k]?=some (sl (some ⟨g,o,none⟩) c1 m1):=List.getElem?_set_self hkl;have h':St w0 F0 w ([sl (some ⟨g,o,none⟩) c1 m1]++(L.set k (sl (some ⟨g,o,none⟩) c1 m1)).eraseIdx k):=hS1.front k hi1;obtain ⟨F,hF,hn,hlt2,_,_,hm⟩:=h'.share;obtain ⟨F1,F2,rfl,q1,q2⟩:=hF;cases (show F2=[] from q2);rw [List.append_nil] at hn hlt2 hm;obtain ⟨news,g1,g2,g3⟩:=jJ.flat rd2;obtain ⟨ad,had⟩:=I5 (g:=g) (o:=o) (c:=c1) (i:=j.toNat) (m:=hD.sz α)
  have hnews:∀ (q:Nat) (u:Value),news[q]?=some u→w.cell? (ad.add q)=some u:=by
    intro q u hu
    by_cases hne:m2=[]
    · subst hne;simp at g1;subst g1;simp at hu
    · obtain ⟨b,o2,hb,hc⟩:=g3 hne;rw [had] at hb;cases hb;rw [add_lit];exact hc q u hu
  obtain ⟨w',hr,hst⟩:=FM (ty:=ty) (cc:=c2) hT q1 g1 hnews (g2 w) (by simpa using hn) (by simpa using hlt2) (by omega);rw [List.append_nil] at hst;have hfin:=(hm w' _ hst).perm (eraseIdx_set (L.set k (sl (some ⟨g,o,none⟩) c1 m1)) k _ (je hi1));rw [List.set_set] at hfin;rw [had] at e2;subst e2;refine LW.run (v:=.slice (some ⟨g,o,none⟩) (m1++m2).length c1) ?_ hd (h w' hfin);simp only [execOp,resolve,invoke,builtin,Sem.run_bind,Sem.run_pure,Result.andThen_ok,List.map_toArray,List.map_cons,List.map_nil,hx,hy,hr]
theorem LW.O3 {t:TypeId} {x:Operand} {k:Nat} {a:Option Addr} {c kk ck:Nat} {l:List α} (hT:lY P t α) (hS:St w0 F0 w L) (hi:L[k]?=some (sl a c l)) (hx:ev e x=.slice (m5 a c l.length (hD.sz α)) kk ck) (hk:0<kk) (hroom:l.length+kk≤c)
    (h:∀ w':World,St w0 F0 w' L→LW P n ops Q rest e w') :
    LW P n ops Q (⟨none,.call { callee:=.builtin .clear,args:=#[x],argTypes:=#[t] },ty,pos,aft,none⟩::rest) e w:=by
  obtain ⟨g,o,rfl⟩:∃ g o,a=some ⟨g,o,none⟩:=by
    obtain ⟨F,hF,_,_⟩:=hS.own;obtain ⟨Fi,q,_⟩:=hF.at_ k hi
    rcases q with ⟨_,hc,_,_⟩ | ⟨g,o,_,_,ha,_⟩
    · omega
    · exact ⟨g,o,ha⟩
  have hsub:m5 (some (⟨g,o,none⟩:Addr)) c l.length (hD.sz α)=some ⟨g,o+l.length * hD.sz α,none⟩:=by
    unfold m5;rw [if_neg (by omega)];simp [add_lit]
  rw [hsub] at hx;have h':St w0 F0 w ([sl (some ⟨g,o,none⟩) c l]++L.eraseIdx k):=hS.front k hi;obtain ⟨F,hF,hn,hlt2,_,_,hm⟩:=h'.share;obtain ⟨F1,F2,rfl,q1,q2⟩:=hF;cases (show F2=[] from q2);rw [List.append_nil] at hn hlt2 hm;obtain ⟨w',hr,hst⟩:=FQ (ty:=ty) (ck:=ck) hT q1 hlt2 hn hk hroom;have hfin:=(hm w' _ hst).perm (eraseIdx_set L k _ (je hi));rw [JJ hi] at hfin;intro a ha;refine wpList_plain rfl fun K hK=>?_;unfold Oper.wp;rw [ha.eval]
  have hr2:(execOp (ev e) ⟨none,.call { callee:=.builtin .clear,args:=#[x],argTypes:=#[t] },ty,pos,aft,none⟩).run P w=.ok (.value (.tuple #[])) w':=by
    simp only [execOp,resolve,invoke,builtin,Sem.run_bind,Sem.run_pure,Result.andThen_ok,List.map_toArray,List.map_cons,List.map_nil,hx,hr]
  rw [hr2];exact hK _ _ (h w' hfin _ ha)
end
theorem Mi {β:Type} {l m0 m1 m2:List β} {i j:Int} (h0:Kx.sub l i j=some m0) (hij:(i==j)=false) (h1:Kx.sub l 0 i=some m1) (h2:Kx.sub l j (l.length:Int)=some m2):(m1++m2).length<l.length:=by
  have hij:i ≠ j:=by simpa using hij
  obtain ⟨b0,b1,b2,_,_⟩:=qI h0;obtain ⟨_,_,_,_,z1⟩:=qI h1;obtain ⟨_,_,_,_,z2⟩:=qI h2;rw [List.length_append];omega
section
variable {α:Type} [hD α] {P:Program} {n:Nat} {Q:kV} {e:Env} {w w0:World} {F0:List Nat} {L:List Item} {ops:Array Oper} {rest:List Oper} {ty:TypeId} {pos:String} {aft:Array Edge} {d:Nat}
end
section
variable {α:Type} [hD α] {P:Program} {n:Nat} {Q:kV} {e:Env} {w w0:World} {F0:List Nat} {L:List Item} {ops:Array Oper} {rest:List Oper} {ty:TypeId} {pos:String} {aft:Array Edge} {d:Nat}
def Raw (α:Type) [hD α]:Type:={v:List Value // v.length=hD.sz α∧∀ u,u ∈ v→u.oneCell'=true}
instance:hD (Raw α) where
  ty:=hD.ty α
  sz:=hD.sz α
  zero:=⟨hD.zc α,hD.ja (hD.jl (α:=α) default),hD.kb (hD.jl (α:=α) default)⟩
  zc:=hD.zc α
  pos:=hD.pos
  rd _ _ cs x:=cs=x.1
  own _ cs F x:=cs=x.1∧F=[]
  kY:=by intro _ _ _ x h;rw [h];exact x.2.1
  ja:=by intro _ _ _ x h;rw [h.1];exact x.2.1
  kn h _:=h
  ko h _:=h
  jI h _:=h
  kX h _:=h.1
  kb:=by intro _ _ _ x h;rw [h.1];exact x.2.2
  jl _:=⟨rfl,rfl⟩
end
end Go.Kx
namespace Go.Kx
open Go Go.RowKit
set_option linter.unusedVariables false
set_option linter.unusedSimpArgs false
set_option linter.unusedSectionVars false
section
variable {w w0:World} {F0:List Nat} {L K:List Item}
theorem St.conv {α:Type} {M:α→List Item} {R:α→Prop} (hS:St w0 F0 w (K++L)) (h:∀ F,iT K w F→∃ x F',R x∧F'.Perm F∧iT (M x) w F'):∃ x,R x∧St w0 F0 w (M x++L):=by
  obtain ⟨F,hF,hn,hb⟩:=hS.own;obtain ⟨F1,F2,rfl,h1,h2⟩:=iT.append.1 hF;obtain ⟨x,F',hR,hp,hM⟩:=h F1 h1;have hp2:(F'++F2).Perm (F1++F2):=hp.append_right F2;exact ⟨x,hR,hS.os,hS.tape,hS.output,hS.size,hS.same,F'++F2,iT.append.2 ⟨F',F2,rfl,hM,h2⟩,hp2.nodup_iff.2 hn,fun b hm=>hb b (hp2.mem_iff.1 hm)⟩
end
def su (p:bh) (h:Hd):jH:=jH.mk p.Pe p.own h p.py p.gR p.Pn p.Pp p.cd p.g5 p.Pm
def v5 (v:jH) (t:List g6):bh:=bh.mk v.Pe v.own t v.py v.gR v.Pn v.Pp v.cd v.g5 v.Pm
def xL:List Hd→List (List g6)→List Item
  | h::hs,t::ts=>sl h.a h.c t::xL hs ts
  | _,_=>[]
def tl (hs:List Hd) (ts:List (List g6)):Item:=⟨fun w F=>iT (xL hs ts) w F,fun _ _ _ h hb=>h.frame hb⟩
def nS:List Hd→List (List g6)→Prop
  | [],[]=>True
  | h::hs,t::ts=>h.n=t.length∧nS hs ts
  | _,_=>False
theorem nS.len:∀ {hs:List Hd} {ts:List (List g6)},nS hs ts→hs.length=ts.length
  | [],[],_=>rfl
  | _::_,_::_,h=>by simp [nS.len h.2]
  | [],_::_,h=>h.elim
  | _::_,[],h=>h.elim
section
variable {w:World}
theorem Hw {cs:List Value} {F:List Nat} {x:bh} (h:hD.own w cs F x):∃ (k:Hd) (F1 F2:List Nat),(F1++F2).Perm F∧hD.own w cs F1 (su x k)∧mo w k.a k.c F2 x.Pg∧k.n=x.Pg.length:=by
  obtain ⟨a0,c0,a1,c1,a2,c2,a3,c3,a7,c7,a8,c8,rfl,f0,r0,rfl,h0,f1,r1,rfl,h1,f2,r2,rfl,h2,hr⟩:=h;refine ⟨⟨a2,x.Pg.length,c2⟩,f0++(f1++r2),f2,?_,⟨a0,c0,a1,c1,a3,c3,a7,c7,a8,c8,rfl,f0,_,rfl,h0,f1,_,rfl,h1,hr⟩,h2,rfl⟩;rw [List.append_assoc,List.append_assoc];exact (List.perm_append_comm.append_left f1).append_left f0
theorem G5 {cs:List Value} {F1 F2:List Nat} {v:jH} {t:List g6} (h:hD.own w cs F1 v) (ht:mo w v.Pg.a v.Pg.c F2 t) (hn:v.Pg.n=t.length):∃ F,F.Perm (F1++F2)∧hD.own w cs F (v5 v t):=by
  obtain ⟨lb,ow,⟨ta,tn,tc⟩,hp,tp,nx,wt,sp,pr,lo⟩:=v;cases hn;obtain ⟨a0,c0,a1,c1,a3,c3,a7,c7,a8,c8,rfl,f0,r0,rfl,h0,f1,r1,rfl,h1,hr⟩:=h;refine ⟨f0++(f1++(F2++r1)),?_,a0,c0,a1,c1,ta,tc,a3,c3,a7,c7,a8,c8,rfl,f0,_,rfl,h0,f1,_,rfl,h1,F2,_,rfl,ht,hr⟩;rw [List.append_assoc,List.append_assoc];exact (List.perm_append_comm.append_left f1).append_left f0
theorem four {a b c d:List Nat}:((a++b)++(c++d)).Perm ((a++c)++(b++d)):=by
  simp only [List.append_assoc];refine List.Perm.append_left a ?_;rw [← List.append_assoc, ← List.append_assoc];exact List.perm_append_comm.append_right d
theorem A5:∀ {l:List bh} {cs:List Value} {F:List Nat},jJ w cs F l→∃ (hs:List Hd) (F1 F2:List Nat),(F1++F2).Perm F∧jJ w cs F1 (List.zipWith su l hs)∧iT (xL hs (l.map (·.Pg))) w F2∧nS hs (l.map (·.Pg))
  | [],cs,F,h=>⟨[],[],[],by cases (show F=[] from h);exact List.Perm.refl _,rfl,rfl,trivial⟩
  | x::l,cs,F,⟨c1,c2,G1,G2,hc,hF,h1,h2⟩=>by
    subst hF;obtain ⟨hs,F1,F2,p1,e1,e2,e3⟩:=A5 h2;obtain ⟨k,H1,H2,p2,d1,d2,d3⟩:=Hw h1;exact ⟨k::hs,H1++F1,H2++F2,four.trans (p2.append p1),⟨c1,c2,H1,F1,hc,rfl,d1,e1⟩,⟨H2,F2,rfl,d2,e2⟩,d3,e3⟩
theorem AN:∀ {l:List jH} {ts:List (List g6)} {cs:List Value} {F1 F2:List Nat},jJ w cs F1 l→iT (xL (l.map (·.Pg)) ts) w F2→nS (l.map (·.Pg)) ts→∃ F,F.Perm (F1++F2)∧jJ w cs F (List.zipWith v5 l ts)
  | [],[],cs,F1,F2,h,hh,_=>⟨[],by cases (show F1=[] from h);cases (show F2=[] from hh);exact List.Perm.refl _,rfl⟩
  | [],_::_,_,_,_,_,_,h=>h.elim
  | _::_,[],_,_,_,_,_,h=>h.elim
  | x::l,t::ts,cs,F1,F2,⟨c1,c2,G1,G2,hc,hF,h1,h2⟩,⟨H1,H2,hH,k1,k2⟩,⟨n1,n2⟩=>by
    subst hF;subst hH;obtain ⟨F,p1,e1⟩:=AN h2 k2 n2;obtain ⟨E,p2,e2⟩:=G5 h1 k1 n1;exact ⟨E++F,(p2.append p1).trans four,⟨c1,c2,E,F,hc,rfl,e2,e1⟩⟩
theorem A0:∀ {l:List iC} {cs:List Value} {F:List Nat},jJ w cs F l→∃ hs:List Hd,jJ w cs [] (hs.map jM.mk)∧iT (xL hs (l.map (·.Py))) w F∧nS hs (l.map (·.Py))
  | [],cs,F,h=>⟨[],rfl,h,trivial⟩
  | x::l,cs,F,⟨c1,c2,G1,G2,hc,hF,h1,h2⟩=>by
    subst hF;obtain ⟨hs,e1,e2,e3⟩:=A0 h2;obtain ⟨a,c,rfl,f,r,rfl,d1,dr⟩:=h1;cases (show r=[] from dr);rw [List.append_nil];exact ⟨⟨a,x.Py.length,c⟩::hs,⟨_,c2,[],[],hc,rfl,⟨rfl,rfl⟩,e1⟩,⟨f,G2,rfl,d1,e2⟩,rfl,e3⟩
theorem AY:∀ {hs:List Hd} {ts:List (List g6)} {cs:List Value} {F1 F2:List Nat},jJ w cs F1 (hs.map jM.mk)→iT (xL hs ts) w F2→nS hs ts→F1=[]∧jJ w cs F2 (ts.map iC.mk)
  | [],[],_,_,_,h,hh,_=>⟨h,hh⟩
  | [],_::_,_,_,_,_,_,h=>h.elim
  | _::_,[],_,_,_,_,_,h=>h.elim
  | ⟨a,n,c⟩::hs,t::ts,cs,F1,F2,⟨c1,c2,G1,G2,hc,hF,h1,h2⟩,⟨H1,H2,hH,k1,k2⟩,⟨n1,n2⟩=>by
    subst hF;subst hH;cases n1;obtain ⟨rfl,rfl⟩:=h1;obtain ⟨rfl,e⟩:=AY h2 k2 n2;exact ⟨rfl,_,c2,H1,H2,hc,rfl,⟨a,c,rfl,H1,[],by simp,k1,rfl⟩,e⟩
theorem By {l:List bh} {hs:List Hd} (h:nS hs (l.map (·.Pg))):(List.zipWith su l hs).length=l.length:=by
  have:=h.len;rw [List.length_map] at this;rw [List.length_zipWith,this,Nat.min_self]
theorem Kn {l:List jH} {ts:List (List g6)} (h:nS (l.map (·.Pg)) ts):(List.zipWith v5 l ts).length=l.length:=by
  have:=h.len;rw [List.length_map] at this;rw [List.length_zipWith,this,Nat.min_self]
variable {w0:World} {F0:List Nat} {L:List Item} {a:Option Addr} {c:Nat}
theorem St.Im {l:List bh} (hS:St w0 F0 w (sl a c l::L)):∃ hs:List Hd,nS hs (l.map (·.Pg))∧St w0 F0 w (sl a c (List.zipWith su l hs)::tl hs (l.map (·.Pg))::L):=by
  refine St.conv (K:=[sl a c l]) (M:=fun hs=>[sl a c (List.zipWith su l hs),tl hs (l.map (·.Pg))]) hS ?_;rintro F ⟨F1,F2,rfl,h,h2⟩;cases (show F2=[] from h2)
  rcases h with ⟨rfl,rfl,rfl,rfl⟩ | ⟨g,o,cur,F',ha,hg,hs,h1,h2,hF,he⟩
  · exact ⟨[],[],trivial,List.Perm.refl _,[],[],rfl,.inl ⟨rfl,rfl,rfl,rfl⟩,[],[],rfl,rfl,rfl⟩
  · subst hF;obtain ⟨hs',G1,G2,p,e1,e2,e3⟩:=A5 he;refine ⟨hs',(g::G1)++(G2++[]),e3,?_,g::G1,_,rfl,.inr ⟨g,o,cur,G1,ha,hg,hs,by rw [By e3];exact h1,h2,rfl,e1⟩,G2,[],rfl,e2,rfl⟩;rw [List.append_nil,List.append_nil];exact p.cons g
theorem St.J2 {l:List jH} {hs:List Hd} {ts:List (List g6)} (hS:St w0 F0 w (sl a c l::tl hs ts::L)) (he:l.map (·.Pg)=hs) (hl:nS hs ts):St w0 F0 w (sl a c (List.zipWith v5 l ts)::L):=by
  subst he
  obtain ⟨_,_,h⟩:=St.conv (α:=Unit) (K:=[sl a c l,tl (l.map (·.Pg)) ts]) (M:=fun _=>[sl a c (List.zipWith v5 l ts)]) (R:=fun _=>True) hS (by
    rintro F ⟨F1,F2,rfl,h,F3,F4,rfl,h3,h4⟩;cases (show F4=[] from h4)
    rcases h with ⟨rfl,rfl,rfl,rfl⟩ | ⟨g,o,cur,F',ha,hg,hs,h1,h2,hF,he⟩
    · cases ts with
      | nil=>cases (show F3=[] from h3);exact ⟨(),[],trivial,List.Perm.refl _,[],[],rfl,.inl ⟨rfl,rfl,rfl,rfl⟩,rfl⟩
      | cons t ts=>exact hl.elim
    · subst hF;obtain ⟨G,p,e⟩:=AN he h3 hl;refine ⟨(),(g::G)++[],trivial,?_,g::G,[],rfl,.inr ⟨g,o,cur,G,ha,hg,hs,by rw [Kn hl];exact h1,h2,rfl,e⟩,rfl⟩;rw [List.append_nil,List.append_nil]
      exact p.cons g)
  exact h
theorem St.M6 {l:List iC} (hS:St w0 F0 w (sl a c l::L)):∃ hs:List Hd,nS hs (l.map (·.Py))∧St w0 F0 w (sl a c (hs.map jM.mk)::tl hs (l.map (·.Py))::L):=by
  refine St.conv (K:=[sl a c l]) (M:=fun hs=>[sl a c (hs.map jM.mk),tl hs (l.map (·.Py))]) hS ?_;rintro F ⟨F1,F2,rfl,h,h2⟩;cases (show F2=[] from h2)
  rcases h with ⟨rfl,rfl,rfl,rfl⟩ | ⟨g,o,cur,F',ha,hg,hs,h1,h2,hF,he⟩
  · exact ⟨[],[],trivial,List.Perm.refl _,[],[],rfl,.inl ⟨rfl,rfl,rfl,rfl⟩,[],[],rfl,rfl,rfl⟩
  · subst hF;obtain ⟨hs',e1,e2,e3⟩:=A0 he;refine ⟨hs',(g::[])++(F'++[]),e3,by simp,[g],_,rfl,.inr ⟨g,o,cur,[],ha,hg,hs,?_,h2,rfl,e1⟩,F',[],rfl,e2,rfl⟩;have:=e3.len;rw [List.length_map] at this;rw [List.length_map,this];exact h1
theorem St.Io {hs:List Hd} {ts:List (List g6)} (hS:St w0 F0 w (sl a c (hs.map jM.mk)::tl hs ts::L)) (hl:nS hs ts):St w0 F0 w (sl a c (ts.map iC.mk)::L):=by
  obtain ⟨_,_,h⟩:=St.conv (α:=Unit) (K:=[sl a c (hs.map jM.mk),tl hs ts]) (M:=fun _=>[sl a c (ts.map iC.mk)]) (R:=fun _=>True) hS (by
    rintro F ⟨F1,F2,rfl,h,F3,F4,rfl,h3,h4⟩;cases (show F4=[] from h4)
    rcases h with ⟨rfl,rfl,h5,rfl⟩ | ⟨g,o,cur,F',ha,hg,hs',h1,h2,hF,he⟩
    · cases hs with
      | cons _ _=>cases h5
      | nil=>cases ts with
        | nil=>cases (show F3=[] from h3);exact ⟨(),[],trivial,List.Perm.refl _,[],[],rfl,.inl ⟨rfl,rfl,rfl,rfl⟩,rfl⟩
        | cons t ts=>exact hl.elim
    · subst hF;obtain ⟨rfl,e⟩:=AY he h3 hl;have hn:=hl.len;rw [List.length_map] at h1
      exact ⟨(),(g::F3)++[],trivial,by simp,g::F3,[],rfl,.inr ⟨g,o,cur,F3,ha,hg,hs',by rw [List.length_map, ← hn];exact h1,h2,rfl,e⟩,rfl⟩)
  exact h
theorem Ba:∀ {hs hs':List Hd} {ts ts':List (List g6)},nS hs ts→xL (hs++hs') (ts++ts')=xL hs ts++xL hs' ts'
  | [],_,[],_,_=>rfl
  | [],_,_::_,_,h=>h.elim
  | _::_,_,[],_,h=>h.elim
  | h::hs,hs',t::ts,ts',k=>by
    show _::xL (hs++hs') (ts++ts')=_::(xL hs ts++xL hs' ts')
    rw [Ba k.2]
theorem nS.snoc:∀ {hs:List Hd} {ts:List (List g6)} {h:Hd} {t:List g6},nS hs ts→h.n=t.length→nS (hs++[h]) (ts++[t])
  | [],[],_,_,_,h=>⟨h,trivial⟩
  | [],_::_,_,_,k,_=>k.elim
  | _::_,[],_,_,k,_=>k.elim
  | _::_,_::_,_,_,k,h=>⟨k.1,nS.snoc k.2 h⟩
theorem St.NU {hs:List Hd} {ts:List (List g6)} {t:List g6} {h:Hd} (hS:St w0 F0 w (sl h.a h.c t::tl hs ts::L)) (hl:nS hs ts) (hn:h.n=t.length):St w0 F0 w (tl (hs++[h]) (ts++[t])::L):=by
  obtain ⟨_,_,k⟩:=St.conv (α:=Unit) (K:=[sl h.a h.c t,tl hs ts]) (M:=fun _=>[tl (hs++[h]) (ts++[t])]) (R:=fun _=>True) hS (by
    rintro F ⟨F1,F2,rfl,h1,F3,F4,rfl,h3,h4⟩;cases (show F4=[] from h4);refine ⟨(),(F3++F1)++[],trivial,by rw [List.append_nil,List.append_nil];exact List.perm_append_comm,F3++F1,[],rfl,?_,rfl⟩
    show iT (xL (hs++[h]) (ts++[t])) w (F3++F1)
    rw [Ba hl]
    exact iT.append.2 ⟨F3,F1,rfl,h3,F1,[],by simp,h1,rfl⟩)
  exact k
theorem St.O2 (hS:St w0 F0 w L):St w0 F0 w (tl [] []::L):=by
  obtain ⟨_,_,k⟩:=St.conv (α:=Unit) (K:=[]) (M:=fun _=>[tl [] []]) (R:=fun _=>True) hS (fun F hF=>⟨(),[],trivial,by cases (show F=[] from hF);exact List.Perm.refl _,[],[],rfl,rfl,rfl⟩);exact k
end
theorem Df {β:Type} {b:Bool} {k:Unit→Option β} {r:β} (h:(gd b).bind k=some r):b=true∧k ()=some r:=by
  cases b with
  | true=>exact ⟨rfl,h⟩
  | false=>cases h
def yn (z:jH) (y:jM):jH:=jH.mk z.Pe z.own y.Py z.py z.gR z.Pn z.Pp z.cd z.g5 z.Pm
theorem DC {pv:List jH} {n N:Nat} (hn:n=pv.length) (hN:pv.length<N) (hB:pv.length<gT) :
    ∃ o,iter (fun s:(List jM)×Int=>(bif decide (s.2<(n:Int)) then ((idx pv s.2).bind fun y=>(app s.1 [jM.mk y.Pg]).bind fun z=>some (.inl (z,IntKind.i64.wrap (s.2+1)))) else some (.inr (s.1,s.2)):Option (((List jM)×Int)⊕((List jM)×Int)))) N ([],0)=some o∧o.1=pv.map fun v=>jM.mk v.Pg:=by
  subst hn;refine ⟨_,xb (fun k=>((pv.take k).map fun v=>jM.mk v.Pg,(k:Int))) pv.length (r:=(pv.map fun v=>jM.mk v.Pg,(pv.length:Int))) hN ?_ ?_,rfl⟩
  · intro k hk;have hy:pv[k]?=some pv[k]:=List.getElem?_eq_getElem hk
    have hl:((pv.take k).map fun v=>jM.mk v.Pg).length=k:=by rw [List.length_map,List.length_take];omega
    simp only [iF hk,PD,ik,hy,PB]
    have e:pv.take (k+1)=pv.take k++[pv[k]]:=by rw [List.take_add_one,hy];rfl
    rw [kB (k:=k) (by rw [hl];exact Nat.le_refl _) (by omega),PB,iJ (Nat.lt_trans hk hB),e,List.map_append];rfl
  · simp only [iG,PC,List.take_length]
theorem LY {pv:List jH} {tv:List jM} {n N:Nat} (hn:n=tv.length) (hl:tv.length=pv.length) (hN:tv.length<N) (hB:tv.length<gT) :
    ∃ o,iter (fun s:(List jH)×Int=>(bif decide (s.2<(n:Int)) then ((idx tv s.2).bind fun y=>(idx s.1 s.2).bind fun z=>(some (s.1.set (s.2:Int).toNat (jH.mk z.Pe z.own y.Py z.py z.gR z.Pn z.Pp z.cd z.g5 z.Pm))).bind fun q=>some (.inl (q,IntKind.i64.wrap (s.2+1)))) else some (.inr (s.1,s.2)):Option (((List jH)×Int)⊕((List jH)×Int)))) N (pv,0)=some o∧o.1=List.zipWith yn pv tv:=by
  subst hn;refine ⟨_,xb (fun k=>(List.zipWith yn (pv.take k) (tv.take k)++pv.drop k,(k:Int))) tv.length (r:=(List.zipWith yn pv tv,(tv.length:Int))) hN ?_ ?_,rfl⟩
  · intro k hk;have hy:tv[k]?=some tv[k]:=List.getElem?_eq_getElem hk;have hz:pv[k]?=some (pv[k]'(hl ▸ hk)):=List.getElem?_eq_getElem _
    have hL:(List.zipWith yn (pv.take k) (tv.take k)).length=k:=by rw [List.length_zipWith,List.length_take,List.length_take];omega
    have hd:pv.drop k=(pv[k]'(hl ▸ hk))::pv.drop (k+1):=List.drop_eq_getElem_cons _
    have hg:(List.zipWith yn (pv.take k) (tv.take k)++pv.drop k)[k]?=some (pv[k]'(hl ▸ hk)):=by
      rw [List.getElem?_append_right (by omega),hL,Nat.sub_self,hd];rfl
    simp only [iF hk,PD,ik,hy,hg,PB,iJ (Nat.lt_trans hk hB),Int.toNat_natCast];refine congrArg (fun q=>some (Sum.inl (q,((k+1:Nat):Int)))) ?_
    have e1:pv.take (k+1)=pv.take k++[pv[k]'(hl ▸ hk)]:=by rw [List.take_add_one,hz];rfl
    have e2:tv.take (k+1)=tv.take k++[tv[k]]:=by rw [List.take_add_one,hy];rfl
    rw [List.set_append,if_neg (by omega),hL,Nat.sub_self,hd,e1,e2,List.zipWith_append (by rw [List.length_take,List.length_take];omega),List.append_assoc];rfl
  · simp only [iG,PC];rw [List.take_length,hl,List.take_length,List.drop_length,List.append_nil]
theorem BD:∀ {l:List bh} {hs:List Hd},hs.length=l.length→(List.zipWith su l hs).map (fun v=>jM.mk v.Pg)=hs.map jM.mk
  | [],[],_=>rfl
  | [],_::_,h=>by simp at h
  | _::_,[],h=>by simp at h
  | _::l,_::hs,h=>by
    show _::(List.zipWith su l hs).map _=_::hs.map _
    rw [BD (by simpa using h)];rfl
theorem JV:∀ {pv:List jH} {ht:List Hd},ht.length=pv.length→(List.zipWith yn pv (ht.map jM.mk)).map (·.Pg)=ht
  | [],[],_=>rfl
  | [],_::_,h=>by simp at h
  | _::_,[],h=>by simp at h
  | v::pv,h::ht,k=>by
    show h::(List.zipWith yn pv (ht.map jM.mk)).map (·.Pg)=h::ht
    rw [JV (by simpa using k)]
theorem GJ:∀ {l:List bh} {hs ht:List Hd} {ts:List (List g6)},hs.length=l.length→ht.length=l.length→List.zipWith v5 (List.zipWith yn (List.zipWith su l hs) (ht.map jM.mk)) ts=ky l ts
  | [],_,_,_,_,_=>by simp [ky]
  | _::_,[],_,_,h,_=>by simp at h
  | _::_,_::_,[],_,_,h=>by simp at h
  | _::l,_::hs,_::ht,[],_,_=>by simp [ky]
  | p::l,h::hs,k::ht,t::ts,h1,h2=>by
    show tJ p t::List.zipWith v5 (List.zipWith yn (List.zipWith su l hs) (ht.map jM.mk)) ts=tJ p t::ky l ts
    rw [GJ (by simpa using h1) (by simpa using h2)]
theorem yP {l:List bh} {ts:List (List g6)} (h:ts.length=l.length):(ky l ts).length=l.length:=by
  unfold ky;rw [List.length_zipWith,h,Nat.min_self]
theorem LV {l:List bh} {hs:List Hd} {pv:List jH} {i:Int} {z:bh} (hpv:pv=List.zipWith su l hs) (hhs:hs.length=l.length) (hz:idx l i=some z):∃ h,idx pv i=some (su z h):=by
  unfold idx at hz ⊢;split at hz
  · have hlt:i.toNat<hs.length:=by rw [hhs];exact (List.getElem?_eq_some_iff.1 hz).1
    refine ⟨hs[i.toNat],?_⟩;rw [if_pos (by assumption),hpv,List.getElem?_zipWith,hz,List.getElem?_eq_getElem hlt]
  · cases hz
def Rl (l:List bh) (pv:List jH) (hs:List Hd) (ts:List (List g6)) (i:Int):Prop :=
  (∃ h0:List Hd,h0.length=l.length∧pv=List.zipWith su l h0∧h0.take hs.length=hs)∧nS hs ts∧i=(hs.length:Int)
theorem Rl.ix {l:List bh} {pv:List jH} {hs:List Hd} {ts:List (List g6)} {i:Int} (h:Rl l pv hs ts i) (hc:decide (i<(l.length:Int))=true):∃ v,idx pv i=some v:=by
  obtain ⟨⟨h0,e0,rfl,_⟩,_,rfl⟩:=h;have hk:=of_decide_eq_true hc
  have hlt:hs.length<l.length:=by omega
  exact ⟨su (l[hs.length]'hlt) (h0[hs.length]'(by omega)),by rw [ik,List.getElem?_zipWith,List.getElem?_eq_getElem hlt,List.getElem?_eq_getElem (by omega)]⟩
theorem Rl.step {l:List bh} {pv:List jH} {hs:List Hd} {ts:List (List g6)} {i:Int} {v:jH} {t:List g6} {h:Hd} (r:Rl l pv hs ts i) (hc:decide (i<(l.length:Int))=true) (hB:l.length<gT) (hx:idx pv i=some v) (hn:h.n=t.length) :
    Rl l (pv.set (i:Int).toNat (jH.mk v.Pe v.own h v.py v.gR v.Pn v.Pp v.cd v.g5 v.Pm)) (hs++[h]) (ts++[t]) (IntKind.i64.wrap (i+1)):=by
  obtain ⟨⟨h0,e0,rfl,e1⟩,e2,rfl⟩:=r;have hk:=of_decide_eq_true hc
  have hlt:hs.length<l.length:=by omega
  have hg:(List.zipWith su l h0)[hs.length]?=some (su (l[hs.length]'hlt) (h0[hs.length]'(by omega))):=by rw [List.getElem?_zipWith,List.getElem?_eq_getElem hlt,List.getElem?_eq_getElem (by omega)]
  rw [ik,hg] at hx;cases Option.some.inj hx;refine ⟨⟨h0.set hs.length h,by rw [List.length_set,e0],?_,?_⟩,e2.snoc hn,?_⟩
  · rw [Int.toNat_natCast];apply List.ext_getElem? fun k=>?_
    by_cases hkk:hs.length=k
    · subst hkk;rw [List.getElem?_set_self (by rw [List.length_zipWith];omega),List.getElem?_zipWith,List.getElem?_set_self (by omega),List.getElem?_eq_getElem hlt];rfl
    · rw [List.getElem?_set_ne hkk,List.getElem?_zipWith,List.getElem?_zipWith,List.getElem?_set_ne hkk]
  · rw [List.length_append,List.length_cons,List.length_nil,Nat.zero_add,List.take_add_one,List.take_set_of_le (Nat.le_refl _),e1,List.getElem?_set,if_pos rfl,if_pos (by omega)];rfl
  · rw [iJ (Nat.lt_trans hlt hB),List.length_append];rfl
theorem DT:∀ {l:List bh} {hs:List Hd},hs.length=l.length→(List.zipWith su l hs).map (·.Pg)=hs
  | [],[],_=>rfl
  | [],_::_,h=>by simp at h
  | _::_,[],h=>by simp at h
  | _::l,h::hs,k=>by
    show h::(List.zipWith su l hs).map (·.Pg)=h::hs
    rw [DT (by simpa using k)]
theorem Gu:∀ {l:List bh} {hs:List Hd} {ts:List (List g6)},hs.length=l.length→nS hs ts→List.zipWith v5 (List.zipWith su l hs) ts=ky l ts
  | [],[],[],_,_=>rfl
  | [],[],_::_,_,h=>h.elim
  | [],_::_,_,h,_=>by simp at h
  | _::_,[],_,h,_=>by simp at h
  | _::_,_::_,[],_,h=>h.elim
  | p::l,h::hs,t::ts,k,e=>by
    show tJ p t::List.zipWith v5 (List.zipWith su l hs) ts=tJ p t::ky l ts
    rw [Gu (by simpa using k) e.2]
theorem Rl.fin {l:List bh} {pv:List jH} {hs:List Hd} {ts:List (List g6)} {i:Int} (r:Rl l pv hs ts i) (hc:decide (i<(l.length:Int))=false):pv.map (·.Pg)=hs∧List.zipWith v5 pv ts=ky l ts∧ts.length=l.length:=by
  obtain ⟨⟨h0,e0,rfl,e1⟩,e2,rfl⟩:=r;have hk:=of_decide_eq_false hc
  have hle:hs.length≤h0.length:=by rw [← e1,List.length_take];omega
  have hh:h0=hs:=by rw [← e1,List.take_of_length_le (by omega)]
  subst hh;exact ⟨DT e0,Gu e0 e2,by rw [← e2.len,e0]⟩
end Go.Kx
namespace Go.Kx
open Go Go.RowKit
set_option linter.unusedVariables false
set_option linter.unusedSimpArgs false
section
variable {P:Program} {n:Nat} {Q:kV} {e:Env} {w w0:World} {F0:List Nat} {A B:Prop} {α:Type}
theorem gc {y z:Option α} {r:α} {b:Bool} {c1 c2:Code} {x:Operand} (h:(bif b then y else z)=some r) (h1:b=true→y=some r→CW P n c1 Q e w) (h2:b=false→z=some r→CW P n c2 Q e w) (f:autoParam ((Unit→CW P n (.cond x c1 c2) Q e w)→B) go._auto_1) (hx:ev e x=.bool b:=by rfl):B:=f fun _=>ch h h1 h2 hx
theorem gB {y z:Option α} {r:α} {b:Bool} (h:(bif b then y else z)=some r) (h1:b=true→y=some r→A) (h2:b=false→z=some r→A) (f:autoParam ((Unit→A)→B) go._auto_1):B:=f fun _=>by
  cases b
  · exact h2 rfl h
  · exact h1 rfl h
theorem bH {y z:Option α} {r:α} {b:Bool} (h:(bif b then y else z)=some r) (h1:b=true→y=some r→A) (h2:b=false→z=some r→A):A:=by
  cases b
  · exact h2 rfl h
  · exact h1 rfl h
theorem AW.ux {ops:Array Oper} {fuel:Nat} {E:pb} {listed:Array Bool} {i d:Nat} {ty:TypeId} {pos:String} {aft:Array Edge} {g:Option (Nat×Bool)} {v:Value} {op:Op} (hn:listed[i]?=some false) (hi:ops[i]?=some ⟨some d,op,ty,pos,aft,g⟩) (hok:j8 ops listed i=true) (hw:oQ ops g e=true) (hd:Nat.ble (d+1) n=true)
    (hl:il P (ev e) op v) (h:AW P n ops Q fuel E (listed.setIfInBounds i true) (kP e d v) w):AW P n ops Q (fuel+1) E listed e w:=AW.u hi hok hw hd hl h
theorem St.cA {L:List Item} {g:Nat} {ty:TypeId} {cs:List Value} (h:St w0 F0 w L) (hm:∃ i:Nat,L[i]?=some (bx g ty cs)):w.heap[g]?=some (.cells cs.toArray ty (0,0)):=by
  obtain ⟨i,hi⟩:=hm;exact St.cell (h:=h) hi
theorem jn {ops:Array Oper} {fuel:Nat} {E:pb} {listed:Array Bool} {j:Nat} {w':World} (h:AW P n ops Q fuel E (listed.setIfInBounds j true) e w') (k:Kept ops j E w w':=by repeat (first | exact jZ | (refine Kept.c (St.cA (by assumption) (by repeat (first | exact nO | apply nP))) ?_) | (refine jW ?_))) :
    LW P n ops (fun x e' w2=>x=.normal∧Kept ops j E w w2∧AW P n ops Q fuel E (listed.setIfInBounds j true) e' w2) [] e w':=jN k h
theorem eo {m:List (Nat×Value)} {A:Prop} (h:En e m∧A):∃ e',e=iq e' m∧A:=by
  obtain ⟨e',he⟩:=h.1.out;exact ⟨e',he,h.2⟩
theorem LW.bd {ops:Array Oper} {rest:List Oper} {d:Nat} {ty:TypeId} {pos:String} {aft:Array Edge} {t:TypeId} {parts:Array (Nat×Operand)} (vs:List (Nat×Value)) (cs:Array Value) (h:LW P n ops Q rest (kP e d (.agg cs)) w) (hp:parts.toList.map (fun p=>(p.1,ev e p.2))=vs:=by exact rfl) (hb:P.built t vs=some cs:=by kernel_rfl) (hd:Nat.ble (d+1) n=true:=by exact rfl) :
    LW P n ops Q (⟨some d,.build t parts,ty,pos,aft,none⟩::rest) e w:=LW.u (il.build hp hb) hd h
theorem AW.tk {ops:Array Oper} {fuel:Nat} {E:pb} {listed:Array Bool} {d:Nat} {ty:TypeId} {pos:String} {aft:Array Edge} {g:Option (Nat×Bool)} {v:Value} {op:Op} {C:World→Prop} (i:Nat) (hi:ops[i]?=some ⟨some d,op,ty,pos,aft,g⟩) (hl:iZ P (ev e) op C v) (hC:C w) (h:AW P n ops Q fuel ((i,C)::E) (listed.setIfInBounds i true) (kP e d v) w)
    (hok:j8 ops listed i=true:=by kernel_rfl) (hw:oQ ops g e=true:=by exact rfl) (hd:Nat.ble (d+1) n=true:=by exact rfl):AW P n ops Q (fuel+1) E listed e w:=AW.take hi hok hw hd hl hC h
theorem Gr {w:World}:∀ l:List Int,jJ w (l.map (Value.int .i64)) [] l
  | []=>rfl
  | x::l=>⟨[.int .i64 x],l.map (Value.int .i64),[],[],rfl,rfl,⟨rfl,rfl⟩,Gr l⟩
theorem LW.bi {ops:Array Oper} {rest:List Oper} {d:Nat} {ty:TypeId} {pos:String} {aft:Array Edge} {L:List Item} {t:TypeId} {len:Nat} {parts:Array (Nat×Operand)} (l:List Int) (hS:St w0 F0 w L) (h:∀ (a:Option Addr) (c:Nat) (w':World),St w0 F0 w' (sl a c l::L)→Fr w w' []→LW P n ops Q rest (kP e d (.slice a l.length c)) w')
    (hp:parts.toList.map (fun p=>(p.1,ev e p.2))=l.zipIdx.map (fun p=>(p.2,Value.int .i64 p.1)):=by exact rfl) (hb:Al P t len (l.zipIdx.map fun p=>(p.2,Value.int .i64 p.1))=some (hD.ty Int,(l.map (Value.int .i64)).toArray):=by kernel_rfl) (hl:l.length=len:=by exact rfl) (hL:Nat.ble len 65536=true:=by exact rfl) (hd:Nat.ble (d+1) n=true:=by exact rfl) :
    LW P n ops Q (⟨some d,.buildSlice t len parts,ty,pos,aft,none⟩::rest) e w:=LW.yw hp hb hl (by subst hl;show (l.map (Value.int .i64)).toArray.size=l.length * 1;simp) hL (fun w=>Gr l) hS hd h
theorem LW.b0 [hD α] {ops:Array Oper} {rest:List Oper} {d:Nat} {ty:TypeId} {pos:String} {aft:Array Edge} {L:List Item} {t:TypeId} {parts:Array (Nat×Operand)} (hS:St w0 F0 w L) (h:∀ (a:Option Addr) (c:Nat) (w':World),St w0 F0 w' (sl a c ([]:List α)::L)→Fr w w' []→LW P n ops Q rest (kP e d (.slice a ([]:List α).length c)) w')
    (hp:parts.toList.map (fun p=>(p.1,ev e p.2))=[]:=by exact rfl) (hb:Al P t 0 []=some (hD.ty α, #[]):=by kernel_rfl) (hd:Nat.ble (d+1) n=true:=by exact rfl) :
    LW P n ops Q (⟨some d,.buildSlice t 0 parts,ty,pos,aft,none⟩::rest) e w:=LW.yw (l:=([]:List α)) hp hb rfl (by simp) rfl (fun w=>rfl) hS hd h
-- fused
section
variable {ops:Array Oper} {rest:List Oper} {fuel:Nat} {E:pb} {listed:Array Bool} {d:Nat} {ty:TypeId} {pos:String} {aft:Array Edge} {v:Value} {l:List (Nat×Value)} {L:List Item} {j:Nat}
theorem vb {E:Env} {t bt:TypeId} {x y:Operand} {a:Option Nat} {g o:Nat} {cs vs cs':List Value} {L':List Item} (hS:St w0 F0 w L) (i:Nat) (h:∀ w':World,St w0 F0 w' L'→LW P n ops Q rest (iq e l) w')
    (f:autoParam ((Unit→LW P n ops Q (⟨none,.store t x y,ty,pos,aft,none⟩::rest) E w)→B) go._auto_1) (hE:E=iq e l:=by repeat (first | (with_reducible exact rfl) | (with_reducible apply sA))) (hx:ks l x=some (.pointer (some ⟨g,o,none⟩)):=by rfl) (hi:L[i]?=some (bx g bt cs):=by rfl) (ht:jx P t=some a:=by exact kS.h) (hy:ks l y=some v:=by rfl) (hv:Nf v.cells.toList vs:=by repeat (first | ((with_reducible apply Nf.cons);rfl) | ((with_reducible apply Nf.nil);rfl))) (hm:vs.length=a.getD 1:=by rfl) (hl:Nat.ble (o+vs.length) cs.length=true:=by rfl) (h1:vs.all (·.oneCell')=true:=by rfl) (hc:Nf (yz cs o vs) cs':=by repeat (first | ((with_reducible apply Nf.cons);rfl) | ((with_reducible apply Nf.nil);rfl))) (hL:Nf (L.set i (bx g bt cs')) L':=by repeat (first | ((with_reducible apply Nf.cons);rfl) | ((with_reducible apply Nf.nil);rfl))):B:=f fun _=>LW.st hS i h hE hx hi ht hy hv hm hl h1 hc hL
theorem vv {E:Env} {t:TypeId} {x:Operand} {cs:List Value} (hS:St w0 F0 w L) (h:∀ (g:Nat) (w':World),St w0 F0 w' (bx g t cs::L)→LW P n ops Q rest (iq e ((d,.pointer (some ⟨g,0,none⟩))::l)) w')
    (f:autoParam ((Unit→LW P n ops Q (⟨some d,.box t x,ty,pos,aft,none⟩::rest) E w)→B) go._auto_1) (hE:E=iq e l:=by repeat (first | (with_reducible exact rfl) | (with_reducible apply sA))) (hx:ks l x=some v:=by rfl) (hv:Nf v.cells.toList cs:=by repeat (first | ((with_reducible apply Nf.cons);rfl) | ((with_reducible apply Nf.nil);rfl))) (hd:Nat.ble (d+1) n=true:=by rfl):B:=f fun _=>LW.bo hS h hE hx hv hd
theorem jw {E:Env} {m:List (Nat×Value)} {c:Code} (ds:List Nat) (k:∀ e',CW P n c Q (iq e' m) w)
    (f:autoParam ((Unit→CW P n c Q E w)→B) go._auto_1) (hE:E=iq e l:=by repeat (first | (with_reducible exact rfl) | (with_reducible apply sA))) (h:oD l ds m:=by repeat (first | exact oD.nil | (apply oD.cons;rfl))):B:=f fun _=>CW.fl ds k hE h
theorem zR {o:Oper} (i:Nat) (h:LW P n ops (fun x e' w'=>x=.normal∧Kept ops i E w w'∧AW P n ops Q fuel E (listed.setIfInBounds i true) e' w') [o] e w)
    (f:autoParam ((Unit→AW P n ops Q (fuel+1) E listed e w)→B) go._auto_1) (ho:ops[i]?=some o:=by rfl) (hr:Region.ready .any ops listed=[i]:=by kernel_rfl):B:=f fun _=>jO i h ho hr
theorem dW {id:Nat} {lo:List Oper} (h:AW P n lo.toArray Q lo.length [] (Array.replicate lo.length false) e w.drew) (hm:P.follows .mixedOrders=true:=by kernel_rfl):CW P n (.region id lo.toArray true) Q e w:=CW.draw hm h
theorem jK {id:Nat} {lo:List Oper} (h:AW P n lo.toArray Q lo.length [] (Array.replicate lo.length false) e w.drew) (f:autoParam ((Unit→CW P n (.region id lo.toArray true) Q e w)→B) go._auto_1) (hm:P.follows .mixedOrders=true:=by kernel_rfl):B:=f fun _=>CW.draw hm h
theorem jt {t:TypeId} {parts:Array (Nat×Operand)} (vs:List (Nat×Value)) (cs:Array Value) (h:LW P n ops Q rest (kP e d (.agg cs)) w) (f:autoParam ((Unit→LW P n ops Q (⟨some d,.build t parts,ty,pos,aft,none⟩::rest) e w)→B) go._auto_1) (hp:parts.toList.map (fun p=>(p.1,ev e p.2))=vs:=by exact rfl) (hb:P.built t vs=some cs:=by kernel_rfl) (hd:Nat.ble (d+1) n=true:=by exact rfl) :
    B:=f fun _=>LW.u (il.build hp hb) hd h
end
-- end fused
theorem tt {t:Nat}:ij P e w (.tmp t) (e t):=rfl
theorem rx {t:Nat} {K:Value→Prop} (k:K (e t)):∃ v,kz P #[.tmp t] e w v∧K v:=⟨_,kz.one rfl,k⟩
theorem Ra {t:Nat} {K:Value→Prop} (k:K (e t)):True∧∃ v,kz P #[.tmp t] e w v∧K v:=⟨trivial,_,kz.one rfl,k⟩
theorem ry {r s:ResultVar} {u v:Value} {K:Value→Prop} (h:ij P e w r u) (k:ij P e w s v) (q:K (.tuple #[u,v])):∃ v,kz P #[r,s] e w v∧K v:=⟨_,kz.two h k,q⟩
theorem Rc {r s:ResultVar} {u v:Value} {K:Value→Prop} (h:ij P e w r u) (k:ij P e w s v) (q:K (.tuple #[u,v])):True∧∃ v,kz P #[r,s] e w v∧K v:=⟨trivial,_,kz.two h k,q⟩
end
section
variable {α:Type} [hD α] {w w0:World} {F0:List Nat}
theorem St.m6 {a:Option Addr} {c k:Nat} {l:List α} {cs:List Value} {Z X R:List Item} (h:St w0 F0 w Z) (y:α) (is:List Nat) (m i:Nat) (hp:l4 Z is=some X) (hi:X[m+i]?=some (hole α a c l k cs)) (hM:∀ (w:World) (G:List Nat),iT (X.take m) w G→hD.own w cs G y)
    (hn:pS is=true:=by exact rfl) (hR:Nf ((X.drop m).set i (sl a c (l.set k y))) R:=by repeat (first | ((with_reducible apply Nf.cons);rfl) | ((with_reducible apply Nf.nil);rfl))):St w0 F0 w R:=by
  cases hR.eq;have h2:=h.pick is hp hn;rw [← List.take_append_drop m X] at h2;exact h2.Md i (by rw [List.getElem?_drop];exact hi) hM
end
abbrev qP (a0:Ad) (c0:Nat) (a1:Ad) (c1:Nat) (a2:Ad) (c2:Nat) (a3:Ad) (c3:Nat) (a4:Ad) (c4:Nat) (a5:Ad) (c5:Nat) (x:bh):List Value:=[vS a0 x.Pe.Pd.length c0,vS a1 x.own.length c1,vS a2 x.Pg.length c2,vS a3 x.py.ag.length c3,vI x.py.gc.Ph,vI x.py.gc.Pr,vI x.py.gc.Pj,vS a4 x.py.gc.gQ.length c4,vS a5 x.gR.length c5,vI x.Pn,vI x.Pp,vI x.cd.gE,vI x.cd.gX,vI x.cd.g8,vI x.g5,vI x.Pm]
abbrev qO (a0:Ad) (c0:Nat) (a1:Ad) (c1:Nat) (a2:Ad) (c2:Nat) (x:gP):List Value:=[vI x.Pw,vI x.Pf,vI x.box,vI x.Pu,vI x.iz,vI x.gE,vI x.Pq,vI x.iy,vI x.im,.bool x.Ps,vS a0 x.gZ.length c0,vS a1 x.Po.length c1,vS a2 x.Pk.length c2]
abbrev qC (a0:Ad) (c0:Nat) (a1:Ad) (c1:Nat) (a2:Ad) (c2:Nat) (a3:Ad) (c3:Nat) (a4:Ad) (c4:Nat) (a5:Ad) (c5:Nat) (x:iu):List Value:=[vS a0 x.Pc.Pe.Pd.length c0,vS a1 x.Pc.own.length c1,vS a2 x.Pc.Pg.length c2,vS a3 x.Pc.py.ag.length c3,vI x.Pc.py.gc.Ph,vI x.Pc.py.gc.Pr,vI x.Pc.py.gc.Pj,vS a4 x.Pc.py.gc.gQ.length c4,vS a5 x.Pc.gR.length c5,vI x.Pc.Pn,vI x.Pc.Pp,vI x.Pc.cd.gE,vI x.Pc.cd.gX,vI x.Pc.cd.g8,vI x.Pc.g5,vI x.Pc.Pm,vI x.me,vI x.Pt,vI x.ir]
abbrev qL (x:iA):List Value:=[vI x.Pf,vI x.a,vI x.b,vI x.c,vI x.d,vI x.e]
abbrev qE (x:iK):List Value:=[vI x.Pf,vI x.Pc,vI x.ir,vI x.call.Pf,vI x.call.a,vI x.call.b,vI x.call.c,vI x.call.d,vI x.call.e]
abbrev qH (a0:Ad) (c0:Nat) (a1:Ad) (c1:Nat) (x:g7):List Value:=[vS a0 x.ag.length c0,vI x.gc.Ph,vI x.gc.Pr,vI x.gc.Pj,vS a1 x.gc.gQ.length c1]
abbrev qB (a0:Ad) (c0:Nat) (a1:Ad) (c1:Nat) (x:iO):List Value:=[vS a0 x.Pe.Pd.length c0,vS a1 x.own.length c1,vI x.j6.gE,vI x.j6.gX,vI x.j6.g8]
abbrev qT (x:iB):List Value:=[vI x.Pu,vI x.jy,vI x.kJ,vI x.jR,vI x.Pf,vI x.ka]
end Go.Kx
namespace Go.Kx
open Go Go.RowKit
set_option linter.unusedVariables false
set_option linter.unusedSimpArgs false
class Ct (P:Program) (f:FuncId) where
  {T:Prop}
  p:uG P f=true
  h:T
def KX (K G:Value→World→Prop) (A:Prop):Prop:=(Unit→A)→∀ v w,K v w→G v w
theorem KX.ex {γ:Type} {K:γ→Value→World→Prop} {G:Value→World→Prop} {A:γ→Prop} (h:∀ c,KX (K c) G (A c)):KX (fun v w=>∃ c,K c v w) G (∀ c,A c):=fun a v w ⟨c,hc⟩=>h c (fun _=>a () c) v w hc
inductive xM (l:List (Nat×Value)):List Operand→List Value→Prop
  | nil:xM l [] []
  | cons {x:Operand} {v:Value} {xs:List Operand} {vs:List Value} (h:ks l x=some v) (t:xM l xs vs):xM l (x::xs) (v::vs)
theorem xM.eq {e:Env} {l:List (Nat×Value)}:∀ {xs:List Operand} {vs:List Value},xM l xs vs→xs.map (ev (iq e l))=vs
  | _,_,.nil=>rfl
  | _,_,.cons h t=>by rw [List.map_cons,ji h,t.eq]
inductive Ud (g:Nat) (bt:TypeId) (cs cs':List Value):List Item→List Item→Prop
  | hd {L:List Item}:Ud g bt cs cs' (bx g bt cs::L) (bx g bt cs'::L)
  | tl {x:Item} {L L':List Item} (h:Ud g bt cs cs' L L'):Ud g bt cs cs' (x::L) (x::L')
theorem Ud.ix {g:Nat} {bt:TypeId} {cs cs':List Value}:∀ {L L':List Item},Ud g bt cs cs' L L'→∃ i:Nat,L[i]?=some (bx g bt cs)∧L'=L.set i (bx g bt cs')
  | _,_,.hd=>⟨0,rfl,rfl⟩
  | _,_,.tl h=>by
    obtain ⟨i,h1,h2⟩:=h.ix;exact ⟨i+1,h1,by rw [h2];rfl⟩
inductive zj (L:List Item):List Nat→List Item→Prop
  | nil:zj L [] []
  | cons {i:Nat} {x:Item} {is:List Nat} {M:List Item} (h:L[i]?=some x) (t:zj L is M):zj L (i::is) (x::M)
theorem zj.eq {L:List Item}:∀ {is:List Nat} {M:List Item},zj L is M→l4 L is=some M
  | _,_,.nil=>rfl
  | _,_,.cons h t=>by unfold l4;rw [h,t.eq]
theorem K8 {L:List Item} {x:Item} (h:∃ i:Nat,L[i]?=some x):∃ i:Nat,L[i]?=some x:=h
theorem Oo {L:List Item} {x:Item}:(x::L)[0]?=some x:=rfl
theorem Ou {L:List Item} {x y:Item} {i:Nat} (h:L[i]?=some x):(y::L)[i+1]?=some x:=h
section
variable {P:Program} {n:Nat} {Q:kV} {e:Env} {l:List (Nat×Value)} {w w0:World} {F0:List Nat} {L L':List Item} {ops:Array Oper} {rest:List Oper} {ty:TypeId} {pos:String} {aft:Array Edge} {d:Nat} {v:Value}
theorem St.O8 {M:List Item} {is:List Nat} (h:St w0 F0 w L) (hs:zj L is M) (hn:pS is=true):St w0 F0 w M:=h.pick is hs.eq hn
theorem St.rM {α:Type} [hD α] {a:Option Addr} {c:Nat} {m:List α} (h:St w0 F0 w L) (hm:∃ i:Nat,L[i]?=some (sl a c m)):iR (jA w []) w a c m:=by
  obtain ⟨i,hi⟩:=hm;exact h.rI i hi
theorem St.Gg {α:Type} [hD α] {a:Option Addr} {c:Nat} {m:List α} {w1:World} {F:List Nat} (h:St w0 F0 w L) (hr:iR (fun b=>b ∈ F) w1 a c m) (hm:∃ i:Nat,L[i]?=some (fz w1 F)):iR (jA w []) w a c m:=by
  obtain ⟨i,hi⟩:=hm;exact h.rZ i hi hr
theorem St.Ln {α:Type} [hD α] {a:Option Addr} {c:Nat} {m:List α} {w1:World} {F:List Nat} (h:St w0 F0 w L) (hr:mo w1 a c F m) (hm:∃ i:Nat,L[i]?=some (fz w1 F)):iR (jA w []) w a c m:=h.Gg hr.ju hm
theorem KX.f0 {G:Value→World→Prop} {u:Value} {A:World→Prop} (hS:St w0 F0 w L) (k:∀ w',St w0 F0 w' L→(Unit→A w')→G u w'):KX (fun v w'=>v=u∧St w [] w' []) G (∀ w',St w0 F0 w' L→A w'):=fun a v w' ⟨h1,h2⟩=>by
  subst h1
  have h3:St w0 F0 w' L:=by simpa using hS.add h2
  exact k w' h3 fun _=>a () w' h3
theorem KX.f1 {G:Value→World→Prop} {u:Value} {M:List Item} {A:World→Prop} (hS:St w0 F0 w L) (k:∀ w',St w0 F0 w' (M++L)→(Unit→A w')→G u w'):KX (fun v w'=>v=u∧St w [] w' M) G (∀ w',St w0 F0 w' (M++L)→A w'):=fun a v w' ⟨h1,h2⟩=>by
  subst h1;exact k w' (hS.add h2) fun _=>a () w' (hS.add h2)
theorem gK {α β:Type} {o:Option α} {g:α→Option β} {r:β} {A:α→Prop} {G:Prop} (h:o.bind g=some r) (a:Unit→∀ x,o=some x→g x=some r→A x) (k:∀ x,o=some x→g x=some r→(Unit→A x)→G):G:=by
  obtain ⟨x,h1,h2⟩:=Option.bind_eq_some_iff.1 h;exact k x h1 h2 fun _=>a () x h1 h2
theorem LW.MI {f:FuncId} {as:Array Operand} {ts:Array TypeId} (h:LW P n ops Q (⟨some d,.call { callee:=.value (.func f),args:=as,argTypes:=ts },ty,pos,aft,none⟩::rest) e w):LW P n ops Q (⟨some d,.call { callee:=.value (.func f),args:=as,argTypes:=ts },ty,pos,aft,none⟩::rest) e w:=h
theorem LW.kL {f:FuncId} [c:Ct P f] {as:Array Operand} {ts:Array TypeId} {al:List Value} {K:Value→World→Prop} {A:Prop} (a:Unit→A) (q:c.T→gV P f al.toArray w K) (x:KX K (fun v w'=>LW P n ops Q rest (iq e ((d,v)::l)) w') A) (hd:Nat.ble (d+1) n=true) (hargs:xM l as.toList al) :
    LW P n ops Q (⟨some d,.call { callee:=.value (.func f),args:=as,argTypes:=ts },ty,pos,aft,none⟩::rest) (iq e l) w:=LW.cl (q c.h) (fun v w' hk=>x a v w' hk) c.p hd hargs.eq
theorem LW.sT {t bt:TypeId} {x y:Operand} {av:Option Nat} {g o:Nat} {cs vs cs':List Value} {A:World→Prop} (a:Unit→∀ w':World,St w0 F0 w' L'→A w')
    (hx:ks l x=some (.pointer (some ⟨g,o,none⟩))) (hS:St w0 F0 w L) (hU:Ud g bt cs cs' L L') (ht:jx P t=some av) (hy:ks l y=some v) (hv:Nf v.cells.toList vs) (hm:vs.length=av.getD 1) (hl:Nat.ble (o+vs.length) cs.length=true) (h1:vs.all (·.oneCell')=true) (hc:Nf (yz cs o vs) cs')
    (k:∀ w':World,St w0 F0 w' L'→(Unit→A w')→LW P n ops Q rest (iq e l) w'):LW P n ops Q (⟨none,.store t x y,ty,pos,aft,none⟩::rest) (iq e l) w:=by
  obtain ⟨i,h2,rfl⟩:=hU.ix;cases hv.eq;cases hc.eq;exact LW.On hS i h2 ht (ji hx) (by rw [ji hy]) hm hl h1 fun w' hS' _=>k w' hS' fun _=>a () w' hS'
theorem LW.bT {t:TypeId} {x:Operand} {cs:List Value} {A:Nat→World→Prop} (a:Unit→∀ (g:Nat) (w':World),St w0 F0 w' (bx g t cs::L)→A g w') (hx:ks l x=some v) (hv:Nf v.cells.toList cs) (hS:St w0 F0 w L) (hd:Nat.ble (d+1) n=true)
    (k:∀ (g:Nat) (w':World),St w0 F0 w' (bx g t cs::L)→(Unit→A g w')→LW P n ops Q rest (iq e ((d,.pointer (some ⟨g,0,none⟩))::l)) w'):LW P n ops Q (⟨some d,.box t x,ty,pos,aft,none⟩::rest) (iq e l) w:=by
  cases hv.eq;exact LW.box (by rw [ji hx]) hS hd fun g w' hS' _=>k g w' hS' fun _=>a () g w' hS'
theorem LW.aT {t:TypeId} {cs:List Value} {A:Nat→World→Prop} [z:vd P t] (a:Unit→∀ (g:Nat) (w':World),St w0 F0 w' (bx g t cs::L)→A g w') (hv:Nf z.z.cells.toList cs) (hS:St w0 F0 w L) (hd:Nat.ble (d+1) n=true)
    (k:∀ (g:Nat) (w':World),St w0 F0 w' (bx g t cs::L)→(Unit→A g w')→LW P n ops Q rest (iq e ((d,.pointer (some ⟨g,0,none⟩))::l)) w'):LW P n ops Q (⟨some d,.alloc t,ty,pos,aft,none⟩::rest) (iq e l) w:=by
  cases hv.eq;exact LW.alloc z.h hS hd fun g w' hS' _=>k g w' hS' fun _=>a () g w' hS'
theorem kz.at {rs:Array ResultVar} (h:kz P rs e w v):kz P rs e w v:=h
theorem ij.at {r:ResultVar} (h:ij P e w r v):ij P e w r v:=h
theorem ij.bM {a T m g:Nat} {bt:TypeId} {cs:List Value} (ha:e a=.pointer (some ⟨g,0,none⟩)) (hS:St w0 F0 w L) (hi:∃ i:Nat,L[i]?=some (bx g bt cs)) (ht:jx P T=some (some m)) (hm:cs.length=m):ij P e w (.cell a T) (.agg cs.toArray):=by
  obtain ⟨i,hi⟩:=hi;exact .b hS i hi ht ha hm
theorem ij.cM {a T g:Nat} {bt:TypeId} {cs:List Value} (ha:e a=.pointer (some ⟨g,0,none⟩)) (hS:St w0 F0 w L) (hi:∃ i:Nat,L[i]?=some (bx g bt cs)) (ht:jx P T=some none) (hv:wX cs 0=some v):ij P e w (.cell a T) v:=by
  obtain ⟨i,hi⟩:=hi;exact .b1 hS i hi ht ha hv
section
variable {fuel:Nat} {E:pb} {listed:Array Bool} {i b:Nat}
theorem St.vM {b:Nat} (h:St w0 F0 w L) (hb:jA w0 F0 b):w.heap[b]?=w0.heap[b]?:=h.same b hb.1 hb.2
theorem St.zM {b:Nat} {w1:World} {F:List Nat} (h:St w0 F0 w L) (hb:b ∈ F) (hi:∃ i:Nat,L[i]?=some (fz w1 F)):w.heap[b]?=w1.heap[b]?:=by
  obtain ⟨i,hi⟩:=hi;exact h.zC i hi hb
theorem Pa {j:Nat} {w':World} (k:Kept ops j E w w') (h:AW P n ops Q fuel E (listed.setIfInBounds j true) e w') :
    LW P n ops (fun x e' w2=>x=.normal∧Kept ops j E w w2∧AW P n ops Q fuel E (listed.setIfInBounds j true) e' w2) [] e w':=jN k h
theorem AW.oN (k:Nat) {dd:Option Tmp} {op:Op} {g:Option (Nat×Bool)} (hx:Nx listed b) (hi:ops[b+k]?=some ⟨dd,op,ty,pos,aft,g⟩) (hs:Jk ops listed (b+k)=true) (hr:(Region.ready .any ops listed==[b+k])=true)
    (h:LW P n ops (fun x e' w'=>x=.normal∧Kept ops (b+k) E w w'∧AW P n ops Q fuel E (listed.setIfInBounds (b+k) true) e' w') [⟨dd,op,ty,pos,aft,g⟩] e w):AW P n ops Q (fuel+1) E listed e w:=AW.one (by simpa using hr) ⟨_,hi,h⟩
theorem jP (i:Nat) {dd:Option Tmp} {op:Op} {g:Option (Nat×Bool)} (h:LW P n ops (fun x e' w'=>x=.normal∧Kept ops i E w w'∧AW P n ops Q fuel E (listed.setIfInBounds i true) e' w') [⟨dd,op,ty,pos,aft,g⟩] e w)
    (ho:ops[i]?=some ⟨dd,op,ty,pos,aft,g⟩:=by rfl) (hr:Region.ready .any ops listed=[i]:=by kernel_rfl):AW P n ops Q (fuel+1) E listed e w:=AW.one hr ⟨_,ho,h⟩
theorem oA {i:Nat} {dd:Option Tmp} {op:Op} {g:Option (Nat×Bool)} {R:kV} (h:LW P n ops R [⟨dd,op,ty,pos,aft,g⟩] e w) (ho:ops[i]?=some ⟨dd,op,ty,pos,aft,g⟩:=by rfl):∃ o,ops[i]?=some o∧LW P n ops R [o] e w:=⟨_,ho,h⟩
end
section
variable {t:TypeId} {x:Operand} {b O k m:Nat} {cs vs:List Value} {w1:World} {fuel:Nat} {E:pb} {listed:Array Bool} {i:Nat}
theorem LW.M5 (hx:ks l x=some (.pointer (some ⟨b,O,none⟩))) (hk:∀ (j:Nat) (u:Value),cs[j]?=some u→w1.cell? ⟨b,O+j,none⟩=some u) (hb:w.heap[b]?=w1.heap[b]?) (ht:jx P t=some none) (hv:cs[0]?=some v) (hd:Nat.ble (d+1) n=true)
    (h:LW P n ops Q rest (iq e ((d,v)::l)) w):LW P n ops Q (⟨some d,.load t x,ty,pos,aft,none⟩::rest) (iq e l) w:=LW.l (iZ.jz w1 ht (ji hx) (hk 0 v hv)) hb hd h
theorem LW.NK (hx:ks l x=some (.pointer (some ⟨b,O+k,none⟩))) (hk:∀ (j:Nat) (u:Value),cs[j]?=some u→w1.cell? ⟨b,O+j,none⟩=some u) (hb:w.heap[b]?=w1.heap[b]?) (ht:jx P t=some none) (hv:cs[k]?=some v) (hd:Nat.ble (d+1) n=true)
    (h:LW P n ops Q rest (iq e ((d,v)::l)) w):LW P n ops Q (⟨some d,.load t x,ty,pos,aft,none⟩::rest) (iq e l) w:=LW.l (iZ.jz w1 ht (ji hx) (hk k v hv)) hb hd h
theorem zp (hk:∀ (j:Nat) (u:Value),cs[j]?=some u→w1.cell? ⟨b,O+j,none⟩=some u):∀ (j:Nat) (u:Value),(sI cs k m)[j]?=some u→w1.cell? ⟨b,O+k+j,none⟩=some u:=fun j u hu=>by
  rw [Nat.add_assoc];exact hk _ _ (zE _ _ _ _ _ hu)
theorem LW.MS (hx:ks l x=some (.pointer (some ⟨b,O,none⟩))) (hk:∀ (j:Nat) (u:Value),cs[j]?=some u→w1.cell? ⟨b,O+j,none⟩=some u) (hb:w.heap[b]?=w1.heap[b]?) (ht:jx P t=some (some m)) (hl:Nat.ble (0+m) cs.length=true) (hd:Nat.ble (d+1) n=true) (hn:Nf (sI cs 0 m) vs)
    (h:LW P n ops Q rest (iq e ((d,.agg vs.toArray)::l)) w):LW P n ops Q (⟨some d,.load t x,ty,pos,aft,none⟩::rest) (iq e l) w:=by
  cases hn.eq;exact LW.l (iZ.uI w1 ht (ji hx) (uE _ _ _ (Nat.le_of_ble_eq_true hl)) (zp (k:=0) hk)) hb hd h
theorem LW.NB (hx:ks l x=some (.pointer (some ⟨b,O+k,none⟩))) (hk:∀ (j:Nat) (u:Value),cs[j]?=some u→w1.cell? ⟨b,O+j,none⟩=some u) (hb:w.heap[b]?=w1.heap[b]?) (ht:jx P t=some (some m)) (hl:Nat.ble (k+m) cs.length=true) (hd:Nat.ble (d+1) n=true) (hn:Nf (sI cs k m) vs)
    (h:LW P n ops Q rest (iq e ((d,.agg vs.toArray)::l)) w):LW P n ops Q (⟨some d,.load t x,ty,pos,aft,none⟩::rest) (iq e l) w:=by
  cases hn.eq;exact LW.l (iZ.uI w1 ht (ji hx) (uE _ _ _ (Nat.le_of_ble_eq_true hl)) (zp hk)) hb hd h
theorem j7.M5 (hx:ks l x=some (.pointer (some ⟨b,O,none⟩))) (hk:∀ (j:Nat) (u:Value),cs[j]?=some u→w1.cell? ⟨b,O+j,none⟩=some u) (hb:w.heap[b]?=w1.heap[b]?) (ht:jx P t=some none) (hv:cs[0]?=some v) (hd:Nat.ble (d+1) n=true) (hok:j8 ops listed i=true)
    (h:AW P n ops Q fuel ((i,fun w=>w.heap[b]?=w1.heap[b]?)::E) (listed.setIfInBounds i true) (iq e ((d,v)::l)) w):j7 P n ops Q fuel E listed i d (.load t x) (iq e l) w:=⟨hok,hd,v,.inr ⟨_,iZ.jz w1 ht (ji hx) (hk 0 v hv),hb,h⟩⟩
theorem j7.NK (hx:ks l x=some (.pointer (some ⟨b,O+k,none⟩))) (hk:∀ (j:Nat) (u:Value),cs[j]?=some u→w1.cell? ⟨b,O+j,none⟩=some u) (hb:w.heap[b]?=w1.heap[b]?) (ht:jx P t=some none) (hv:cs[k]?=some v) (hd:Nat.ble (d+1) n=true) (hok:j8 ops listed i=true)
    (h:AW P n ops Q fuel ((i,fun w=>w.heap[b]?=w1.heap[b]?)::E) (listed.setIfInBounds i true) (iq e ((d,v)::l)) w):j7 P n ops Q fuel E listed i d (.load t x) (iq e l) w:=⟨hok,hd,v,.inr ⟨_,iZ.jz w1 ht (ji hx) (hk k v hv),hb,h⟩⟩
theorem j7.MS (hx:ks l x=some (.pointer (some ⟨b,O,none⟩))) (hk:∀ (j:Nat) (u:Value),cs[j]?=some u→w1.cell? ⟨b,O+j,none⟩=some u) (hb:w.heap[b]?=w1.heap[b]?) (ht:jx P t=some (some m)) (hl:Nat.ble (0+m) cs.length=true) (hd:Nat.ble (d+1) n=true) (hn:Nf (sI cs 0 m) vs) (hok:j8 ops listed i=true)
    (h:AW P n ops Q fuel ((i,fun w=>w.heap[b]?=w1.heap[b]?)::E) (listed.setIfInBounds i true) (iq e ((d,.agg vs.toArray)::l)) w):j7 P n ops Q fuel E listed i d (.load t x) (iq e l) w:=by
  cases hn.eq;exact ⟨hok,hd,_,.inr ⟨_,iZ.uI w1 ht (ji hx) (uE _ _ _ (Nat.le_of_ble_eq_true hl)) (zp (k:=0) hk),hb,h⟩⟩
theorem j7.NB (hx:ks l x=some (.pointer (some ⟨b,O+k,none⟩))) (hk:∀ (j:Nat) (u:Value),cs[j]?=some u→w1.cell? ⟨b,O+j,none⟩=some u) (hb:w.heap[b]?=w1.heap[b]?) (ht:jx P t=some (some m)) (hl:Nat.ble (k+m) cs.length=true) (hd:Nat.ble (d+1) n=true) (hn:Nf (sI cs k m) vs) (hok:j8 ops listed i=true)
    (h:AW P n ops Q fuel ((i,fun w=>w.heap[b]?=w1.heap[b]?)::E) (listed.setIfInBounds i true) (iq e ((d,.agg vs.toArray)::l)) w):j7 P n ops Q fuel E listed i d (.load t x) (iq e l) w:=by
  cases hn.eq;exact ⟨hok,hd,_,.inr ⟨_,iZ.uI w1 ht (ji hx) (uE _ _ _ (Nat.le_of_ble_eq_true hl)) (zp hk),hb,h⟩⟩
theorem Gj {A B:Prop} (a:A) (f:(Unit→A)→B:=by
    intro a
    (first
      | ((with_reducible apply j7.M5);rfl;(with_reducible_and_instances assumption);(first | ((with_reducible apply St.vM);(with_reducible assumption);(with_reducible assumption)) | ((with_reducible apply St.zM);(with_reducible assumption);(with_reducible assumption);(repeat (first | exact nO | apply nP))));(exact kS.h);rfl;rfl;(decide +kernel))
      | ((with_reducible apply j7.NK);rfl;(with_reducible_and_instances assumption);(first | ((with_reducible apply St.vM);(with_reducible assumption);(with_reducible assumption)) | ((with_reducible apply St.zM);(with_reducible assumption);(with_reducible assumption);(repeat (first | exact nO | apply nP))));(exact kS.h);rfl;rfl;(decide +kernel))
      | ((with_reducible apply j7.MS);rfl;(with_reducible_and_instances assumption);(first | ((with_reducible apply St.vM);(with_reducible assumption);(with_reducible assumption)) | ((with_reducible apply St.zM);(with_reducible assumption);(with_reducible assumption);(repeat (first | exact nO | apply nP))));(exact kS.h);rfl;rfl;(repeat (first | ((with_reducible apply Nf.cons);rfl) | ((with_reducible apply Nf.nil);rfl)));(decide +kernel))
      | ((with_reducible apply j7.NB);rfl;(with_reducible_and_instances assumption);(first | ((with_reducible apply St.vM);(with_reducible assumption);(with_reducible assumption)) | ((with_reducible apply St.zM);(with_reducible assumption);(with_reducible assumption);(repeat (first | exact nO | apply nP))));(exact kS.h);rfl;rfl;(repeat (first | ((with_reducible apply Nf.cons);rfl) | ((with_reducible apply Nf.nil);rfl)));(decide +kernel)))
    exact a ()):B:=f fun _=>a
theorem O5 {A B:Prop} (a:A) (f:(Unit→A)→B:=by
    intro a
    with_reducible apply AW.ME
    (first
      | ((apply AW.gN 0);(first | exact Nx.set _ _ | exact Nx.start _);rfl;rfl;refine Gj ?_)
      | ((apply AW.gY 0);(first | exact Nx.set _ _ | exact Nx.start _);rfl;rfl;rfl;rfl;(first | assumption | rfl);refine Gj ?_)
      | ((apply AW.gN 1);(first | exact Nx.set _ _ | exact Nx.start _);rfl;(decide +kernel);refine Gj ?_)
      | ((apply AW.gY 1);(first | exact Nx.set _ _ | exact Nx.start _);rfl;(decide +kernel);rfl;rfl;(first | assumption | rfl);refine Gj ?_)
      | ((apply AW.gN 2);(first | exact Nx.set _ _ | exact Nx.start _);rfl;(decide +kernel);refine Gj ?_)
      | ((apply AW.gY 2);(first | exact Nx.set _ _ | exact Nx.start _);rfl;(decide +kernel);rfl;rfl;(first | assumption | rfl);refine Gj ?_))
    exact a ()):B:=f fun _=>a
end
def AD:List Item→Nat→List Nat→List Nat
  | [],_,_=>[]
  | _::L,j,is=>bif is.any (Nat.beq j) then AD L (j+1) is else j::AD L (j+1) is
theorem Cm {L R:List Item} {js:List Nat}:∀ {is:List Nat} {M:List Item},l4 L is=some M→l4 L js=some R→l4 L (is++js)=some (M++R)
  | [],_,h,k=>by cases h;exact k
  | i::is,M,h,k=>by
    unfold l4 at h;split at h
    · rename_i x m h1 h2;cases h;rw [List.cons_append];unfold l4;rw [h1,Cm h2 k];rfl
    · cases h
theorem LW.kE {f:FuncId} [c:Ct P f] {as:Array Operand} {ts:Array TypeId} {al:List Value} {K:List Nat→Value→World→Prop} {A:Prop} {M R:List Item} {is:List Nat} (a:Unit→A) (hS:St w0 F0 w L)
    (q:∀ F,nR w0 F0 w M R F→c.T→gV P f al.toArray w (K F)) (x:∀ F,nR w0 F0 w M R F→KX (K F) (fun v w'=>LW P n ops Q rest (iq e ((d,v)::l)) w') A) (hd:Nat.ble (d+1) n=true) (hargs:xM l as.toList al)
    (hsel:zj L is M) (hR:l4 L (AD L 0 is)=some R) (hn:pS (is++AD L 0 is)=true) :
    LW P n ops Q (⟨some d,.call { callee:=.value (.func f),args:=as,argTypes:=ts },ty,pos,aft,none⟩::rest) (iq e l) w:=by
  obtain ⟨F,hL⟩:=(hS.pick (is++AD L 0 is) (Cm hsel.eq hR) hn).NG;exact LW.cl (q F hL c.h) (fun v w' hk=>x F hL a v w' hk) c.p hd hargs.eq
theorem KX.fE {M M' R:List Item} {F:List Nat} {G:Value→World→Prop} {u:Value} {A:World→Prop} (hL:nR w0 F0 w M R F) (k:∀ w',St w0 F0 w' (M'++R)→(Unit→A w')→G u w'):KX (fun v w'=>v=u∧St w F w' M') G (∀ w',St w0 F0 w' (M'++R)→A w'):=fun a v w' ⟨h1,h2⟩=>by
  subst h1;exact k w' (hL.back _ _ h2) fun _=>a () w' (hL.back _ _ h2)
theorem nR.rM {α:Type} [hD α] {M R:List Item} {F:List Nat} {a:Option Addr} {c:Nat} {m:List α} (h:nR w0 F0 w M R F) (hm:∃ i:Nat,R[i]?=some (sl a c m)):iR (jA w F) w a c m:=by
  obtain ⟨i,hi⟩:=hm;exact h.rI i hi
theorem nR.Gg {α:Type} [hD α] {M R:List Item} {F Fz:List Nat} {w1:World} {a:Option Addr} {c:Nat} {m:List α} (h:nR w0 F0 w M R F) (hr:iR (fun b=>b ∈ Fz) w1 a c m) (hm:∃ i:Nat,R[i]?=some (fz w1 Fz)):iR (jA w F) w a c m:=by
  obtain ⟨i,hi⟩:=hm;exact h.rZ i hi hr
theorem nR.Ln {α:Type} [hD α] {M R:List Item} {F Fz:List Nat} {w1:World} {a:Option Addr} {c:Nat} {m:List α} (h:nR w0 F0 w M R F) (hr:mo w1 a c Fz m) (hm:∃ i:Nat,R[i]?=some (fz w1 Fz)):iR (jA w F) w a c m:=h.Gg hr.ju hm
theorem rt {B:Prop} (f:B:=by
    refine go ?_
    first | cases h | skip
    repeat' (first
      | exact trivial
      | ((with_reducible apply kz.at);(first | apply kz.one | apply kz.two | apply kz.three | apply kz.four | exact kz.zero))
      | ((with_reducible apply ij.at);(first | exact ij.t rfl | ((apply ij.bM);(exact rfl);(with_reducible assumption);(repeat (first | exact nO | apply nP));(exact kS.h);(exact rfl)) | ((apply ij.cM);(exact rfl);(with_reducible assumption);(repeat (first | exact nO | apply nP));(exact kS.h);(exact rfl))))
      | ((with_reducible apply St.O8);(with_reducible assumption);(repeat (first | exact zj.nil | ((apply zj.cons);(repeat (first | exact Oo | apply Ou)))));(exact rfl))
      | apply And.intro
      | apply Exists.intro
      | exact rfl)):B:=f
theorem LW.O7 {dd:Option Tmp} {op:Op} {g:Option (Nat×Bool)} (h:LW P n ops Q (⟨dd,op,ty,pos,aft,g⟩::rest) e w):LW P n ops Q (⟨dd,op,ty,pos,aft,g⟩::rest) e w:=h
theorem LW.O6 {r:List Oper} {dd:Option Tmp} {op:Op} {g:Option (Nat×Bool)} (hr:r=⟨dd,op,ty,pos,aft,g⟩::rest) (h:LW P n ops Q (⟨dd,op,ty,pos,aft,g⟩::rest) e w):LW P n ops Q r e w:=by subst hr;exact h
theorem CW.OR {id:Nat} {lo:List Oper} (hg:lo.all (fun o=>o.guard.isNone)=true) (h:CW P n (.region id lo.toArray false) Q e w):CW P n (.region id lo.toArray false) Q e w:=h
theorem T {A B:Prop} (a:A) (f:(Unit→A)→B:=by
    intro a
    repeat (first
      | ((with_reducible apply CW.nr);(repeat first | (with_reducible exact rfl) | (with_reducible apply sA)))
      | with_reducible apply CW.seq
      | with_reducible apply La
      | with_reducible apply Lo
      | with_reducible apply K1
      | with_reducible apply Lv
      | with_reducible apply Le
      | with_reducible apply K0
      | ((with_reducible apply Ll);(exact rfl))
      | with_reducible apply CW.region
      | with_reducible apply CW.skip
      | with_reducible apply CW.block
      | with_reducible apply CW.exit
      | (with_reducible apply CW.ret))
    repeat (first
      | ((with_reducible apply LW.nr);(repeat first | (with_reducible exact rfl) | (with_reducible apply sA)))
      | ((with_reducible apply LW.yes);rfl;rfl;(first | assumption | rfl))
      | ((with_reducible apply LW.no);rfl;rfl;(first | assumption | rfl);rfl)
      | ((with_reducible apply LW.mv);rfl;rfl)
      | ((with_reducible apply LW.fa);(exact jB.h);rfl;rfl)
      | ((with_reducible apply LW.ld);rfl;assumption;(repeat (first | exact nO | apply nP));(exact kS.h);rfl;rfl)
      | ((with_reducible apply LW.bin);rfl;rfl;rfl;rfl)
      | ((with_reducible apply LW.JO);rfl;(first | assumption | rfl);rfl;rfl)
      | ((with_reducible apply LW.Jo);rfl;(first | assumption | rfl);rfl;rfl)
      | ((with_reducible apply LW.as);rfl;rfl)
      | ((with_reducible apply LW.IP);rfl;assumption;(repeat (first | exact nO | apply nP));(exact kS.h);rfl;rfl;(repeat (first | ((with_reducible apply Nf.cons);rfl) | ((with_reducible apply Nf.nil);rfl))))
      | ((with_reducible apply LW.len);(exact oF.h);rfl;rfl)
      | ((with_reducible apply LW.JM);(exact oF.h);(exact uu.h);rfl;rfl;assumption;assumption;rfl)
      | ((with_reducible apply LW.MG);rfl;rfl;rfl)
      | ((with_reducible apply LW.ext);rfl;rfl;rfl)
      | ((with_reducible apply LW.not);rfl;rfl)
      | ((with_reducible apply LW.neg);rfl;rfl)
      | ((with_reducible apply LW.M5);rfl;(with_reducible_and_instances assumption);(first | ((with_reducible apply St.vM);(with_reducible assumption);(with_reducible assumption)) | ((with_reducible apply St.zM);(with_reducible assumption);(with_reducible assumption);(repeat (first | exact nO | apply nP))));(exact kS.h);rfl;rfl)
      | ((with_reducible apply LW.NK);rfl;(with_reducible_and_instances assumption);(first | ((with_reducible apply St.vM);(with_reducible assumption);(with_reducible assumption)) | ((with_reducible apply St.zM);(with_reducible assumption);(with_reducible assumption);(repeat (first | exact nO | apply nP))));(exact kS.h);rfl;rfl)
      | ((with_reducible apply LW.MS);rfl;(with_reducible_and_instances assumption);(first | ((with_reducible apply St.vM);(with_reducible assumption);(with_reducible assumption)) | ((with_reducible apply St.zM);(with_reducible assumption);(with_reducible assumption);(repeat (first | exact nO | apply nP))));(exact kS.h);rfl;rfl;(repeat (first | ((with_reducible apply Nf.cons);rfl) | ((with_reducible apply Nf.nil);rfl))))
      | ((with_reducible apply LW.NB);rfl;(with_reducible_and_instances assumption);(first | ((with_reducible apply St.vM);(with_reducible assumption);(with_reducible assumption)) | ((with_reducible apply St.zM);(with_reducible assumption);(with_reducible assumption);(repeat (first | exact nO | apply nP))));(exact kS.h);rfl;rfl;(repeat (first | ((with_reducible apply Nf.cons);rfl) | ((with_reducible apply Nf.nil);rfl))))
      | ((with_reducible apply LW.sT a);rfl;assumption;(repeat (first | apply Ud.hd | apply Ud.tl));(exact kS.h);rfl;(repeat (first | ((with_reducible apply Nf.cons);rfl) | ((with_reducible apply Nf.nil);rfl)));rfl;rfl;rfl;(repeat (first | ((with_reducible apply Nf.cons);rfl) | ((with_reducible apply Nf.nil);rfl)));(clear a);intro w s a)
      | ((with_reducible apply LW.bT a);rfl;(repeat (first | ((with_reducible apply Nf.cons);rfl) | ((with_reducible apply Nf.nil);rfl)));assumption;rfl;(clear a);intro g w s a)
      | ((with_reducible apply LW.aT a);(repeat (first | ((with_reducible apply Nf.cons);rfl) | ((with_reducible apply Nf.nil);rfl)));assumption;rfl;(clear a);intro g w s a)
      | ((with_reducible apply LW.MI);(apply gK (by first | with_reducible exact h | exact h) a);(clear a);(intro y hy h a);(with_reducible apply LW.kL a);(intro t;apply t;(with_reducible exact hy));(case hargs=>(repeat (first | exact xM.nil | (apply xM.cons;rfl))));(case hd=>exact rfl);
          (repeat (first | exact rfl | exact gS (oi (by with_reducible assumption)) | ((with_reducible apply St.rB);(with_reducible assumption);(with_reducible assumption)) | ((with_reducible apply St.rM);(with_reducible assumption);(repeat (first | exact nO | apply nP));with_reducible fail_if_success (apply K8)) | ((with_reducible apply St.Gg);(with_reducible assumption);(with_reducible assumption);(repeat (first | exact nO | apply nP))) | ((with_reducible apply St.Ln);(with_reducible assumption);(with_reducible assumption);(repeat (first | exact nO | apply nP)))));
          (clear a);(repeat ((with_reducible apply KX.ex);intro c));(first | ((with_reducible apply KX.f0);(with_reducible assumption)) | ((with_reducible apply KX.f1);(with_reducible assumption)));intro w s a)
      | ((with_reducible apply LW.MI);(apply gK (by first | with_reducible exact h | exact h) a);(clear a);(intro y hy h a);(with_reducible apply LW.kE a);(with_reducible assumption);(intro F u t;apply t;(with_reducible exact hy));(case hargs=>(repeat (first | exact xM.nil | (apply xM.cons;rfl))));(case hd=>exact rfl);(all_goals (try (with_reducible apply nR.st u)));
          (case hsel=>(repeat (first | exact zj.nil | ((apply zj.cons);(repeat (first | exact Oo | apply Ou))))));(case hR=>exact rfl);(case hn=>exact rfl);
          (repeat (first | exact rfl | exact gS (oi (by with_reducible assumption)) | ((with_reducible apply nR.rB);(with_reducible assumption);(with_reducible assumption)) | ((with_reducible apply nR.rM);(with_reducible assumption);(repeat (first | exact nO | apply nP));with_reducible fail_if_success (apply K8)) | ((with_reducible apply nR.Gg);(with_reducible assumption);(with_reducible assumption);(repeat (first | exact nO | apply nP));with_reducible fail_if_success (apply K8)) | ((with_reducible apply nR.Ln);(with_reducible assumption);(with_reducible assumption);(repeat (first | exact nO | apply nP)))));
          (intro F u);(clear a);(repeat ((with_reducible apply KX.ex);intro c));((with_reducible apply KX.fE);(with_reducible assumption));intro w s a)
      | ((with_reducible apply LW.MI);(with_reducible apply LW.kL a);(intro t;apply t;(with_reducible assumption));(case hargs=>(repeat (first | exact xM.nil | (apply xM.cons;rfl))));(case hd=>exact rfl);
          (repeat (first | exact rfl | exact gS (oi (by with_reducible assumption)) | ((with_reducible apply St.rB);(with_reducible assumption);(with_reducible assumption)) | ((with_reducible apply St.rM);(with_reducible assumption);(repeat (first | exact nO | apply nP));with_reducible fail_if_success (apply K8)) | ((with_reducible apply St.Gg);(with_reducible assumption);(with_reducible assumption);(repeat (first | exact nO | apply nP))) | ((with_reducible apply St.Ln);(with_reducible assumption);(with_reducible assumption);(repeat (first | exact nO | apply nP)))));
          (clear a);(repeat ((with_reducible apply KX.ex);intro c));(first | ((with_reducible apply KX.f0);(with_reducible assumption)) | ((with_reducible apply KX.f1);(with_reducible assumption)));intro w s a)
      | ((with_reducible apply Pa);(repeat (first | exact jZ | ((with_reducible apply Kept.c);(case h=>(first | ((with_reducible apply St.cA);(with_reducible assumption);(repeat (first | exact nO | apply nP));done) | ((with_reducible apply St.vM);(with_reducible assumption);(with_reducible assumption)) | ((with_reducible apply St.zM);(with_reducible assumption);(with_reducible assumption);(repeat (first | exact nO | apply nP));done)))) | ((with_reducible apply Kept.w);(decide +kernel)))))
      | with_reducible apply LW.nil
      | ((with_reducible apply CW.nr);(repeat first | (with_reducible exact rfl) | (with_reducible apply sA)))
      | with_reducible apply CW.seq
      | with_reducible apply La
      | with_reducible apply Lo
      | with_reducible apply K1
      | with_reducible apply Lv
      | with_reducible apply Le
      | with_reducible apply K0
      | ((with_reducible apply Ll);(exact rfl))
      | ((with_reducible apply CW.OR);rfl;(with_reducible apply CW.region))
      | with_reducible apply CW.skip
      | with_reducible apply CW.exit
      | (with_reducible apply CW.ret)
      | ((with_reducible apply AW.nr);(repeat first | (with_reducible exact rfl) | (with_reducible apply sA)))
      | refine gA ?_
      | refine O5 ?_
      | ((with_reducible apply AW.ME);(first | ((apply AW.oN 0);(first | exact Nx.set _ _ | exact Nx.start _);rfl;(decide +kernel);(decide +kernel)) | ((apply AW.oN 1);(first | exact Nx.set _ _ | exact Nx.start _);rfl;(decide +kernel);(decide +kernel)) | ((apply AW.oN 2);(first | exact Nx.set _ _ | exact Nx.start _);rfl;(decide +kernel);(decide +kernel))))
      | ((fail_if_success (with_reducible apply LW.O7));(with_reducible apply LW.O6);rfl))
    exact a ()):B:=f fun _=>a
end
end Go.Kx
