/- One rule for each operation that the text bears. No program in sight. -/
import Derived.Test.YtdlodpchnaojhaaGreatMem
namespace Go.Kx
open Go Go.RowKit
set_option linter.unusedVariables false
set_option linter.unusedSimpArgs false
def A9:List Value→Nat→Option Value
  | [],_=>none
  | v::_,0=>some v
  | _::l,i+1=>A9 l i
theorem Hb:∀ (l:List Value) (i:Nat),A9 l i=l[i]?
  | [],i=>by simp [A9]
  | v::l,0=>by simp [A9]
  | v::l,i+1=>by simp [A9,Hb l i]
def IK (op:BinOp) (k:IntKind) (a b:Int):Option Value :=
  match op with
  | .add=>some (.int k (k.wrap (a+b)))
  | .sub=>some (.int k (k.wrap (a - b)))
  | .mul=>some (.int k (k.wrap (a * b)))
  | .eql=>some (.bool (a==b))
  | .neq=>some (.bool (a != b))
  | .lss=>some (.bool (decide (a<b)))
  | .leq=>some (.bool (decide (a≤b)))
  | .gtr=>some (.bool (decide (a > b)))
  | .geq=>some (.bool (decide (a ≥ b)))
  | .and=>some (.int k (k.wrap ((BitVec.ofInt k.bits a &&& BitVec.ofInt k.bits b).toNat:Int)))
  | .or=>some (.int k (k.wrap ((BitVec.ofInt k.bits a ||| BitVec.ofInt k.bits b).toNat:Int)))
  | .xor=>some (.int k (k.wrap ((BitVec.ofInt k.bits a ^^^ BitVec.ofInt k.bits b).toNat:Int)))
  | _=>none
def BV:IntKind→IntKind→Bool
  | .i8,.i8 | .i16,.i16 | .i32,.i32 | .i64,.i64 | .u8,.u8 | .u16,.u16 | .u32,.u32 | .u64,.u64=>true
  | _,_=>false
theorem I1 {a b:IntKind} (h:BV a b=true):a=b:=by cases a <;> cases b <;> first | rfl | cases h
def pv (ρ:Operand→Value):Op→Option Value
  | .move x=>some (ρ x)
  | .assign x=>some (ρ x)
  | .binOp op _ x y _ =>
    match ρ x,ρ y with
    | .int k a,.int k' b=>bif BV k k' then IK op k a b else none
    | _,_=>none
  | .unOp op _ x =>
    match op,ρ x with
    | .not,.bool b=>some (.bool !b)
    | .neg,.int k a=>some (.int k (k.wrap (0 - a)))
    | _,_=>none
  | .extract x i =>
    match ρ x with
    | .tuple vs=>A9 vs.toList i
    | _=>none
  | _=>none
section
variable {P:Program} {n:Nat} {Q:lL} {e:Env} {w:World} {ops:Array Oper} {rest:List Oper}
  {ty:TypeId} {pos:String} {aft:Array Edge} {d:Nat} {v:Value}
def iD (P:Program) (ρ:Operand→Value) (op:Op) (v:Value):Prop:=∀ (d:Option Tmp) (ty:TypeId) (pos:String) (aft:Array Edge) (g:Option (Nat×Bool)) (w:World),(execOp ρ ⟨d,op,ty,pos,aft,g⟩).run P w=.ok (.value v) w
def iC (P:Program) (ρ:Operand→Value) (op:Op) (C:World→Prop) (v:Value):Prop:=∀ (d:Option Tmp) (ty:TypeId) (pos:String) (aft:Array Edge) (g:Option (Nat×Bool)) (w:World),C w→(execOp ρ ⟨d,op,ty,pos,aft,g⟩).run P w=.ok (.value v) w
theorem LW.u {op:Op} (hp:iD P (ev e) op v) (hd:Nat.ble (d+1) n=true) (h:LW P n ops Q rest (k6 e d v) w) :
    LW P n ops Q (⟨some d,op,ty,pos,aft,none⟩::rest) e w:=LW.run (hp _ _ _ _ _ _) hd h
theorem LW.l {op:Op} {C:World→Prop} (hp:iC P (ev e) op C v) (hC:C w) (hd:Nat.ble (d+1) n=true) (h:LW P n ops Q rest (k6 e d v) w) :
    LW P n ops Q (⟨some d,op,ty,pos,aft,none⟩::rest) e w:=LW.run (hp _ _ _ _ _ _ hC) hd h
variable {ρ:Operand→Value}
theorem iD.p {op:Op} (hv:pv ρ op=some v):iD P ρ op v:=by
  intro d ty pos aft g w
  cases op with
  | move x=>simp [pv] at hv;simp [execOp,hv]
  | assign x=>simp [pv] at hv;simp [execOp,hv]
  | extract x i =>
    simp only [pv] at hv
    split at hv
    · rename_i vs hx
      have hv:vs[i]?=some v:=by rw [Hb] at hv;simpa using hv
      simp [execOp,Instr.extract,hx,hv]
    · cases hv
  | unOp op t x =>
    simp only [pv] at hv
    split at hv
    · rename_i b hx
      cases hv
      simp [execOp,Op.unary,hx]
    · rename_i k a hx
      cases hv
      simp [execOp,Op.unary,Op.intArith,hx]
    · cases hv
  | binOp op t x y u =>
    simp only [pv] at hv
    split at hv
    · rename_i k a k' b hx hy
      cases hk:BV k k' with
      | false=>rw [hk] at hv;cases hv
      | true =>
        rw [hk] at hv
        simp only [cond_true] at hv
        cases I1 hk
        cases op <;> simp only [IK,Option.some.injEq,reduceCtorEq] at hv <;> (try subst hv) <;>
          simp [execOp,eqGuard,binOp,hx,hy,Op.intArith,Op.intCmp,Op.intBits]
    · cases hv
  | _=>cases hv
theorem LW.p {op:Op} (hv:pv (ev e) op=some v) (hd:Nat.ble (d+1) n=true) (h:LW P n ops Q rest (k6 e d v) w) :
    LW P n ops Q (⟨some d,op,ty,pos,aft,none⟩::rest) e w:=LW.u (iD.p hv) hd h
theorem iD.pick {c a b:Operand} {t:Bool} (hc:ρ c=.bool t):iD P ρ (.pick c a b) (bif t then ρ a else ρ b):=by
  intro d ty pos aft g w
  cases t <;> simp [execOp,hc,asBool]
theorem iD.IL {c a b:Operand} {t:Bool} (hc:ρ c=.bool t) (ht:t=true):iD P ρ (.pick c a b) (ρ a):=by subst ht;exact iD.pick hc
theorem iD.IM {c a b:Operand} {t:Bool} (hc:ρ c=.bool t) (ht:t=false):iD P ρ (.pick c a b) (ρ b):=by subst ht;exact iD.pick hc
theorem iD.quo {t u:TypeId} {x y:Operand} {k:IntKind} {a b:Int} (hx:ρ x=.int k a) (hy:ρ y=.int k b) (hb:b ≠ 0):iD P ρ (.binOp .quo t x y u) (.int k (k.wrap (a.tdiv b))):=by
  intro d ty pos aft g w
  simp [execOp,eqGuard,binOp,hx,hy,Op.intDiv,hb]
theorem iD.rem {t u:TypeId} {x y:Operand} {k:IntKind} {a b:Int} (hx:ρ x=.int k a) (hy:ρ y=.int k b) (hb:b ≠ 0):iD P ρ (.binOp .rem t x y u) (.int k (a.tmod b)):=by
  intro d ty pos aft g w
  simp [execOp,eqGuard,binOp,hx,hy,Op.intDiv,hb]
theorem iD.shr {t u:TypeId} {x y:Operand} {k k':IntKind} {a b:Int} (hx:ρ x=.int k a) (hy:ρ y=.int k' b) (hb:¬ b<0):iD P ρ (.binOp .shr t x y u) (.int k (a.fdiv (2 ^ (min b.toNat k.bits)))):=by
  intro d ty pos aft g w
  simp [execOp,eqGuard,binOp,hx,hy,Op.shift,hb]
theorem iD.beq {t u:TypeId} {x y:Operand} {a b:Bool} (ht:P.underlying t=some .bool) (hx:ρ x=.bool a) (hy:ρ y=.bool b):iD P ρ (.binOp .eql t x y u) (.bool (a==b)):=by
  intro d ty pos aft g w
  have h:=run_eql_bool w t a b ht
  simp only [execOp,hx,hy]
  simp [eqGuard,h]
theorem iD.bne {t u:TypeId} {x y:Operand} {a b:Bool} (ht:P.underlying t=some .bool) (hx:ρ x=.bool a) (hy:ρ y=.bool b):iD P ρ (.binOp .neq t x y u) (.bool (!(a==b))):=by
  intro d ty pos aft g w
  have h:=run_neq_bool w t a b ht
  simp only [execOp,hx,hy]
  simp [eqGuard,h]
theorem iD.seq {t u:TypeId} {x y:Operand} {a b:ByteArray} (hx:ρ x=.string a) (hy:ρ y=.string b):iD P ρ (.binOp .eql t x y u) (.bool (a.toList==b.toList)):=by
  intro d ty pos aft g w
  simp only [execOp,hx,hy]
  simp [eqGuard,binOp_string_eql]
theorem iD.LP {t u:TypeId} {x y:Operand} {a b:Array Value} {r:Bool} (hm:P.eqGuardType P.depth t=false) (hx:ρ x=.agg a) (hy:ρ y=.agg b)
    (hr:∀ w:World,(Op.equalIn 10000 t (.agg a) (.agg b)).run P w=.ok r w):iD P ρ (.binOp .eql t x y u) (.bool r):=by
  intro d ty pos aft g w
  have h1:=run_eqGuard_agg w .eql t x y a b hm
  have h2:=run_eql_struct (P:=P) w t a b
  rw [hr w] at h2
  simp only [execOp,hx,hy]
  simp [h1,h2]
theorem iD.CN {t u:TypeId} {x y:Operand} {a b:Array Value} {r:Bool} (hm:P.eqGuardType P.depth t=false) (hx:ρ x=.agg a) (hy:ρ y=.agg b)
    (hr:∀ w:World,(Op.equalIn 10000 t (.agg a) (.agg b)).run P w=.ok r w):iD P ρ (.binOp .neq t x y u) (.bool (!r)):=by
  intro d ty pos aft g w
  have h1:=run_eqGuard_agg w .neq t x y a b hm
  have h2:=run_neq_struct (P:=P) w t a b
  rw [hr w] at h2
  simp only [execOp,hx,hy]
  simp [h1,h2]
theorem iD.conv {s t:TypeId} {x:Operand} {ds:TypeDesc} {k k':IntKind} {a:Int} (hs:P.underlying s=some ds) (ht:P.underlying t=some (.int k')) (hx:ρ x=.int k a):iD P ρ (.convert s t x) (.int k' (k'.wrap a)):=by
  intro d ty pos aft g w
  simp [execOp,convert,run_underlying hs,run_underlying ht,hx,Conv.intToInt]
theorem iD.len {t el:TypeId} {x:Operand} {a:Option Addr} {l c:Nat} (ht:P.underlying t=some (.slice el)) (hx:ρ x=.slice a l c):iD P ρ (.call { callee:=.builtin .len,args:=#[x],argTypes:=#[t] }) (.int .i64 (l:Int)):=by
  intro d ty pos aft g w
  simp [execOp,resolve,invoke,builtin,hx,Builtin.len_,run_underlying ht,goInt]
theorem iD.min {ts:Array TypeId} {x y:Operand} {k:IntKind} {a b:Int} (hx:ρ x=.int k a) (hy:ρ y=.int k b):iD P ρ (.call { callee:=.builtin .min,args:=#[x,y],argTypes:=ts }) (.int k (if b<a then b else a)):=by
  intro d ty pos aft g w
  simp [execOp,resolve,invoke,builtin,hx,hy,Builtin.min_,Builtin.min2]
end
end Go.Kx
