import Derived.Test.YtdlodpchnaojhaaGreatMem
namespace Go.Kx
open Go Go.RowKit
set_option linter.unusedVariables false
set_option linter.unusedSimpArgs false
def BB:List Value→Nat→Option Value
  | [],_=>none
  | v::_,0=>some v
  | _::l,i+1=>BB l i
theorem I4:∀ (l:List Value) (i:Nat),BB l i=l[i]?
  | [],i=>by simp [BB]
  | v::l,0=>by simp [BB]
  | v::l,i+1=>by simp [BB,I4 l i]
def Kg (op:BinOp) (k:IntKind) (a b:Int):Option Value :=
  match op with
  | .add=>some (.int k (k.wrap (a+b)))
  | .sub=>some (.int k (k.wrap (a - b)))
  | .mul=>some (.int k (k.wrap (a * b)))
  | .eql=>some (.bool (a==b))
  | .neq=>some (.bool (a != b))
  | .lss=>some (.bool (decide (a<b)))
  | .leq=>some (.bool (decide (a≤b)))
  | .gtr=>some (.bool (decide (a > b)))
  | .geq=>some (.bool (decide (a ≥ b)))
  | .and=>some (.int k (k.wrap ((BitVec.ofInt k.bits a &&& BitVec.ofInt k.bits b).toNat:Int)))
  | .or=>some (.int k (k.wrap ((BitVec.ofInt k.bits a ||| BitVec.ofInt k.bits b).toNat:Int)))
  | .xor=>some (.int k (k.wrap ((BitVec.ofInt k.bits a ^^^ BitVec.ofInt k.bits b).toNat:Int)))
  | _=>none
def Dy:IntKind→IntKind→Bool
  | .i8,.i8 | .i16,.i16 | .i32,.i32 | .i64,.i64 | .u8,.u8 | .u16,.u16 | .u32,.u32 | .u64,.u64=>true
  | _,_=>false
theorem KK {a b:IntKind} (h:Dy a b=true):a=b:=by cases a<;>cases b<;>first | rfl | cases h
def pv (ρ:Operand→Value):Op→Option Value
  | .move x=>some (ρ x)
  | .assign x=>some (ρ x)
  | .binOp op _ x y _ =>
    match ρ x,ρ y with
    | .int k a,.int k' b=>bif Dy k k' then Kg op k a b else none
    | _,_=>none
  | .unOp op _ x =>
    match op,ρ x with
    | .not,.bool b=>some (.bool !b)
    | .neg,.int k a=>some (.int k (k.wrap (0 - a)))
    | _,_=>none
  | .extract x i =>
    match ρ x with
    | .tuple vs=>BB vs.toList i
    | _=>none
  | _=>none
section
variable {P:Program} {n:Nat} {Q:kN} {e:Env} {w:World} {ops:Array Oper} {rest:List Oper}
  {ty:TypeId} {pos:String} {aft:Array Edge} {d:Nat} {v:Value}
def iq (P:Program) (ρ:Operand→Value) (op:Op) (v:Value):Prop:=∀ (d:Option Tmp) (ty:TypeId) (pos:String) (aft:Array Edge) (g:Option (Nat×Bool)) (w:World),(execOp ρ ⟨d,op,ty,pos,aft,g⟩).run P w=.ok (.value v) w
def jf (P:Program) (ρ:Operand→Value) (op:Op) (C:World→Prop) (v:Value):Prop:=∀ (d:Option Tmp) (ty:TypeId) (pos:String) (aft:Array Edge) (g:Option (Nat×Bool)) (w:World),C w→(execOp ρ ⟨d,op,ty,pos,aft,g⟩).run P w=.ok (.value v) w
theorem LW.u {op:Op} (hp:iq P (ev e) op v) (hd:Nat.ble (d+1) n=true) (h:LW P n ops Q rest (kC e d v) w) :
    LW P n ops Q (⟨some d,op,ty,pos,aft,none⟩::rest) e w:=LW.run (hp _ _ _ _ _ _) hd h
theorem LW.l {op:Op} {C:World→Prop} (hp:jf P (ev e) op C v) (hC:C w) (hd:Nat.ble (d+1) n=true) (h:LW P n ops Q rest (kC e d v) w) :
    LW P n ops Q (⟨some d,op,ty,pos,aft,none⟩::rest) e w:=LW.run (hp _ _ _ _ _ _ hC) hd h
variable {ρ:Operand→Value}
theorem iq.p {op:Op} (hv:pv ρ op=some v):iq P ρ op v:=by
  intro d ty pos aft g w
  cases op with
  | move x=>simp [pv] at hv;simp [execOp,hv]
  | assign x=>simp [pv] at hv;simp [execOp,hv]
  | extract x i =>
    simp only [pv] at hv;split at hv
    · rename_i vs hx
      have hv:vs[i]?=some v:=by rw [I4] at hv;simpa using hv
      simp [execOp,Instr.extract,hx,hv]
    · cases hv
  | unOp op t x =>
    simp only [pv] at hv;split at hv
    · rename_i b hx;cases hv;simp [execOp,Op.unary,hx]
    · rename_i k a hx;cases hv;simp [execOp,Op.unary,Op.intArith,hx]
    · cases hv
  | binOp op t x y u =>
    simp only [pv] at hv;split at hv
    · rename_i k a k' b hx hy
      cases hk:Dy k k' with
      | false=>rw [hk] at hv;cases hv
      | true =>
        rw [hk] at hv;simp only [Om] at hv;cases KK hk
        cases op<;>simp only [Kg,Option.some.injEq,reduceCtorEq] at hv<;>(try subst hv) <;>
          simp [execOp,eqGuard,binOp,hx,hy,Op.intArith,Op.intCmp,Op.intBits]
    · cases hv
  | _=>cases hv
theorem LW.p {op:Op} (hv:pv (ev e) op=some v) (hd:Nat.ble (d+1) n=true) (h:LW P n ops Q rest (kC e d v) w) :
    LW P n ops Q (⟨some d,op,ty,pos,aft,none⟩::rest) e w:=LW.u (iq.p hv) hd h
theorem iq.pick {c a b:Operand} {t:Bool} (hc:ρ c=.bool t):iq P ρ (.pick c a b) (bif t then ρ a else ρ b):=by
  intro d ty pos aft g w;cases t<;>simp [execOp,hc,asBool]
theorem iq.JY {c a b:Operand} {t:Bool} (hc:ρ c=.bool t) (ht:t=true):iq P ρ (.pick c a b) (ρ a):=by subst ht;exact iq.pick hc
theorem iq.Ki {c a b:Operand} {t:Bool} (hc:ρ c=.bool t) (ht:t=false):iq P ρ (.pick c a b) (ρ b):=by subst ht;exact iq.pick hc
theorem iq.quo {t u:TypeId} {x y:Operand} {k:IntKind} {a b:Int} (hx:ρ x=.int k a) (hy:ρ y=.int k b) (hb:b ≠ 0):iq P ρ (.binOp .quo t x y u) (.int k (k.wrap (a.tdiv b))):=by
  intro d ty pos aft g w;simp [execOp,eqGuard,binOp,hx,hy,Op.intDiv,hb]
theorem iq.rem {t u:TypeId} {x y:Operand} {k:IntKind} {a b:Int} (hx:ρ x=.int k a) (hy:ρ y=.int k b) (hb:b ≠ 0):iq P ρ (.binOp .rem t x y u) (.int k (a.tmod b)):=by
  intro d ty pos aft g w;simp [execOp,eqGuard,binOp,hx,hy,Op.intDiv,hb]
theorem iq.beq {t u:TypeId} {x y:Operand} {a b:Bool} (ht:P.underlying t=some .bool) (hx:ρ x=.bool a) (hy:ρ y=.bool b):iq P ρ (.binOp .eql t x y u) (.bool (a==b)):=by
  intro d ty pos aft g w;have h:=run_eql_bool w t a b ht;simp only [execOp,hx,hy];simp [eqGuard,h]
theorem iq.bne {t u:TypeId} {x y:Operand} {a b:Bool} (ht:P.underlying t=some .bool) (hx:ρ x=.bool a) (hy:ρ y=.bool b):iq P ρ (.binOp .neq t x y u) (.bool (!(a==b))):=by
  intro d ty pos aft g w;have h:=run_neq_bool w t a b ht;simp only [execOp,hx,hy];simp [eqGuard,h]
theorem iq.seq {t u:TypeId} {x y:Operand} {a b:ByteArray} (hx:ρ x=.string a) (hy:ρ y=.string b):iq P ρ (.binOp .eql t x y u) (.bool (a.toList==b.toList)):=by
  intro d ty pos aft g w;simp only [execOp,hx,hy];simp [eqGuard,binOp_string_eql]
theorem iq.Ly {t u:TypeId} {x y:Operand} {a b:Array Value} {r:Bool} (hm:P.eqGuardType P.depth t=false) (hx:ρ x=.agg a) (hy:ρ y=.agg b)
    (hr:∀ w:World,(Op.equalIn 10000 t (.agg a) (.agg b)).run P w=.ok r w):iq P ρ (.binOp .neq t x y u) (.bool (!r)):=by
  intro d ty pos aft g w;have h1:=run_eqGuard_agg w .neq t x y a b hm;have h2:=run_neq_struct (P:=P) w t a b;rw [hr w] at h2;simp only [execOp,hx,hy];simp [h1,h2]
theorem iq.conv {s t:TypeId} {x:Operand} {ds:TypeDesc} {k k':IntKind} {a:Int} (hs:P.underlying s=some ds) (ht:P.underlying t=some (.int k')) (hx:ρ x=.int k a):iq P ρ (.convert s t x) (.int k' (k'.wrap a)):=by
  intro d ty pos aft g w;simp [execOp,convert,run_underlying hs,run_underlying ht,hx,Conv.intToInt]
theorem iq.len {t el:TypeId} {x:Operand} {a:Option Addr} {l c:Nat} (ht:P.underlying t=some (.slice el)) (hx:ρ x=.slice a l c):iq P ρ (.call { callee:=.builtin .len,args:=#[x],argTypes:=#[t] }) (.int .i64 (l:Int)):=by
  intro d ty pos aft g w;simp [execOp,resolve,invoke,builtin,hx,Builtin.len_,run_underlying ht,goInt]
theorem iq.min {ts:Array TypeId} {x y:Operand} {k:IntKind} {a b:Int} (hx:ρ x=.int k a) (hy:ρ y=.int k b):iq P ρ (.call { callee:=.builtin .min,args:=#[x,y],argTypes:=ts }) (.int k (if b<a then b else a)):=by
  intro d ty pos aft g w;simp [execOp,resolve,invoke,builtin,hx,hy,Builtin.min_,Builtin.min2]
theorem iq.mx {ts:Array TypeId} {x y:Operand} {k:IntKind} {a b:Int} (hx:ρ x=.int k a) (hy:ρ y=.int k b):iq P ρ (.call { callee:=.builtin .max,args:=#[x,y],argTypes:=ts }) (.int k (if b > a then b else a)):=by
  intro d ty pos aft g w;simp [execOp,resolve,invoke,builtin,hx,hy,Builtin.max_,Builtin.max2]
end
end Go.Kx
