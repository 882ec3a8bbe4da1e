import Derived.Test.YtfmfgnhbgcjajaaGreatEnv
import Derived.Maps.AppendAt
namespace Go.Kx
open Go Go.RowKit
set_option linter.unusedVariables false
set_option linter.unusedSimpArgs false
def Cb:List Value->Nat->Option Value
  | [],_=>none
  | v::_,0=>some v
  | _::l,i+1=>Cb l i
theorem K8:∀(l:List Value) (i:Nat),Cb l i=l[i]?
  | [],i=>by simp[Cb]
  | v::l,0=>by simp[Cb]
  | v::l,i+1=>by simp[Cb,K8 l i]
def M9(op:BinOp)(k:IntKind)(a b:Int):Option Value :=
  match op with
  | .add=>some (.int k (k.wrap (a+b)))
  | .sub=>some (.int k (k.wrap (a-b)))
  | .mul=>some (.int k (k.wrap (a*b)))
  | .eql=>some (.bool (a==b))
  | .neq=>some (.bool (a != b))
  | .lss=>some (.bool (decide (a<b)))
  | .leq=>some (.bool (decide (a<=b)))
  | .gtr=>some (.bool (decide (a>b)))
  | .geq=>some (.bool (decide (a>=b)))
  | .and=>some (.int k (k.wrap ((BitVec.ofInt k.bits a &&& BitVec.ofInt k.bits b).toNat:Int)))
  | .or=>some (.int k (k.wrap ((BitVec.ofInt k.bits a ||| BitVec.ofInt k.bits b).toNat:Int)))
  | .xor=>some (.int k (k.wrap ((BitVec.ofInt k.bits a ^^^ BitVec.ofInt k.bits b).toNat:Int)))
  | _=>none
def DR:IntKind->IntKind->Bool
  | .i8,.i8|.i16,.i16|.i32,.i32|.i64,.i64|.u8,.u8|.u16,.u16|.u32,.u32|.u64,.u64=>true
  | _,_=>false
theorem On{a b:IntKind}(h:DR a b=true):a=b:=by cases a<;>cases b<;>first|rfl|cases h
def pv(ρ:Operand->Value):Op->Option Value
  | .move x=>some (ρ x)
  | .assign x=>some (ρ x)
  | .binOp op _ x y _ =>
    match ρ x,ρ y with
    | .int k a,.int k' b=>bif DR k k' then M9 op k a b else none
    | _,_=>none
  | .unOp op _ x =>
    match op,ρ x with
    | .not,.bool b=>some (.bool !b)
    | .neg,.int k a=>some (.int k (k.wrap (0-a)))
    | _,_=>none
  | .extract x i =>
    match ρ x with
    | .tuple vs=>Cb vs.toList i
    | _=>none
  | _=>none
section
variable {P:Program} {n:Nat} {Q:iO} {e:Env} {w:World} {ops:Array Oper} {rest:List Oper}
  {ty:TypeId} {pos:String} {aft:Array Edge} {d:Nat} {v:Value}
def dL(P:Program)(ρ:Operand->Value)(op:Op)(v:Value):Prop:=∀(d:Option Tmp) (ty:TypeId) (pos:String) (aft:Array Edge) (g:Option (Nat×Bool)) (w:World),(execOp ρ ⟨d,op,ty,pos,aft,g⟩).run P w=.ok (.value v) w
def fv(P:Program)(ρ:Operand->Value)(op:Op)(C:World->Prop)(v:Value):Prop:=∀(d:Option Tmp) (ty:TypeId) (pos:String) (aft:Array Edge) (g:Option (Nat×Bool)) (w:World),C w->(execOp ρ ⟨d,op,ty,pos,aft,g⟩).run P w=.ok (.value v) w
theorem LW.u{op:Op}(hp:dL P (ev e) op v)(hd:Nat.ble (d+1) n=true)(h:LW P n ops Q rest (im e d v) w):
    LW P n ops Q (⟨some d,op,ty,pos,aft,none⟩::rest) e w:=LW.run (hp _ _ _ _ _ _) hd h
theorem LW.l{op:Op}{C:World->Prop}(hp:fv P (ev e) op C v)(hC:C w)(hd:Nat.ble (d+1) n=true)(h:LW P n ops Q rest (im e d v) w):
    LW P n ops Q (⟨some d,op,ty,pos,aft,none⟩::rest) e w:=LW.run (hp _ _ _ _ _ _ hC) hd h
variable {ρ:Operand->Value}
theorem dL.p{op:Op}(hv:pv ρ op=some v):dL P ρ op v:=by
  intro d ty pos aft g w
  cases op with
  | move x=>simp[pv]at hv;simp[execOp,hv]
  | assign x=>simp[pv]at hv;simp[execOp,hv]
  | extract x i =>
    simp only[pv]at hv;split at hv
    · rename_i vs hx
      have hv:vs[i]?=some v:=by rw[K8]at hv;simpa using hv
      simp[execOp,Instr.extract,hx,hv]
    · cases hv
  | unOp op t x =>
    simp only[pv]at hv;split at hv
    · rename_i b hx;cases hv;simp[execOp,Op.unary,hx]
    · rename_i k a hx;cases hv;simp[execOp,Op.unary,Op.intArith,hx]
    · cases hv
  | binOp op t x y u =>
    simp only[pv]at hv;split at hv
    · rename_i k a k' b hx hy
      cases hk:DR k k' with
      | false=>rw[hk]at hv;cases hv
      | true =>
        rw[hk]at hv;simp only[RM]at hv;cases On hk
        cases op<;>simp only[M9,Option.some.injEq,reduceCtorEq]at hv<;>(try subst hv) <;>
          simp[execOp,eqGuard,binOp,hx,hy,Op.intArith,Op.intCmp,Op.intBits]
    · cases hv
  | _=>cases hv
theorem LW.p{op:Op}(hv:pv (ev e) op=some v)(hd:Nat.ble (d+1) n=true)(h:LW P n ops Q rest (im e d v) w):
    LW P n ops Q (⟨some d,op,ty,pos,aft,none⟩::rest) e w:=LW.u (dL.p hv) hd h
theorem dL.pick{c a b:Operand}{t:Bool}(hc:ρ c=.bool t):dL P ρ (.pick c a b) (bif t then ρ a else ρ b):=by
  intro d ty pos aft g w;cases t<;>simp[execOp,hc,asBool]
theorem dL.M6{c a b:Operand}{t:Bool}(hc:ρ c=.bool t)(ht:t=true):dL P ρ (.pick c a b) (ρ a):=by subst ht;exact dL.pick hc
theorem dL.MW{c a b:Operand}{t:Bool}(hc:ρ c=.bool t)(ht:t=false):dL P ρ (.pick c a b) (ρ b):=by subst ht;exact dL.pick hc
theorem dL.quo{t u:TypeId}{x y:Operand}{k:IntKind}{a b:Int}(hx:ρ x=.int k a)(hy:ρ y=.int k b)(hb:b ≠ 0):dL P ρ (.binOp .quo t x y u) (.int k (k.wrap (a.tdiv b))):=by
  intro d ty pos aft g w;simp[execOp,eqGuard,binOp,hx,hy,Op.intDiv,hb]
theorem dL.rem{t u:TypeId}{x y:Operand}{k:IntKind}{a b:Int}(hx:ρ x=.int k a)(hy:ρ y=.int k b)(hb:b ≠ 0):dL P ρ (.binOp .rem t x y u) (.int k (a.tmod b)):=by
  intro d ty pos aft g w;simp[execOp,eqGuard,binOp,hx,hy,Op.intDiv,hb]
theorem dL.shr{t u:TypeId}{x y:Operand}{k k':IntKind}{a b:Int}(hx:ρ x=.int k a)(hy:ρ y=.int k' b)(hb:¬ b<0):dL P ρ (.binOp .shr t x y u) (.int k (a.fdiv (2^(min b.toNat k.bits)))):=by
  intro d ty pos aft g w;simp[execOp,eqGuard,binOp,hx,hy,Op.shift,hb]
theorem dL.beq{t u:TypeId}{x y:Operand}{a b:Bool}(ht:P.underlying t=some .bool)(hx:ρ x=.bool a)(hy:ρ y=.bool b):dL P ρ (.binOp .eql t x y u) (.bool (a==b)):=by
  intro d ty pos aft g w;have h:=run_eql_bool w t a b ht;simp only[execOp,hx,hy];simp[eqGuard,h]
theorem dL.bne{t u:TypeId}{x y:Operand}{a b:Bool}(ht:P.underlying t=some .bool)(hx:ρ x=.bool a)(hy:ρ y=.bool b):dL P ρ (.binOp .neq t x y u) (.bool (!(a==b))):=by
  intro d ty pos aft g w;have h:=run_neq_bool w t a b ht;simp only[execOp,hx,hy];simp[eqGuard,h]
theorem dL.seq{t u:TypeId}{x y:Operand}{a b:ByteArray}(hx:ρ x=.string a)(hy:ρ y=.string b):dL P ρ (.binOp .eql t x y u) (.bool (a.toList==b.toList)):=by
  intro d ty pos aft g w;simp only[execOp,hx,hy];simp[eqGuard,binOp_string_eql]
theorem dL.Cl{t u:TypeId}{x y:Operand}{a b:Array Value}{r:Bool}(hm:P.eqGuardType P.depth t=false)(hx:ρ x=.agg a)(hy:ρ y=.agg b)
    (hr:∀w:World,(Op.equalIn 10000 t (.agg a) (.agg b)).run P w=.ok r w):dL P ρ (.binOp .neq t x y u) (.bool (!r)):=by
  intro d ty pos aft g w;have h1:=run_eqGuard_agg w .neq t x y a b hm;have h2:=run_neq_struct (P:=P) w t a b;rw[hr w]at h2;simp only[execOp,hx,hy];simp[h1,h2]
theorem dL.conv{s t:TypeId}{x:Operand}{ds:TypeDesc}{k k':IntKind}{a:Int}(hs:P.underlying s=some ds)(ht:P.underlying t=some (.int k'))(hx:ρ x=.int k a):dL P ρ (.convert s t x) (.int k' (k'.wrap a)):=by
  intro d ty pos aft g w;simp[execOp,convert,run_underlying hs,run_underlying ht,hx,Conv.intToInt]
theorem dL.len{t el:TypeId}{x:Operand}{a:Option Addr}{l c:Nat}(ht:P.underlying t=some (.slice el))(hx:ρ x=.slice a l c):dL P ρ (.call { callee:=.builtin .len,args:=#[x],argTypes:=#[t] }) (.int .i64 (l:Int)):=by
  intro d ty pos aft g w;simp[execOp,resolve,invoke,builtin,hx,Builtin.len_,run_underlying ht,goInt]
theorem dL.min{ts:Array TypeId}{x y:Operand}{k:IntKind}{a b:Int}(hx:ρ x=.int k a)(hy:ρ y=.int k b):dL P ρ (.call { callee:=.builtin .min,args:=#[x,y],argTypes:=ts }) (.int k (if b<a then b else a)):=by
  intro d ty pos aft g w;simp[execOp,resolve,invoke,builtin,hx,hy,Builtin.min_,Builtin.min2]
theorem dL.mx{ts:Array TypeId}{x y:Operand}{k:IntKind}{a b:Int}(hx:ρ x=.int k a)(hy:ρ y=.int k b):dL P ρ (.call { callee:=.builtin .max,args:=#[x,y],argTypes:=ts }) (.int k (if b>a then b else a)):=by
  intro d ty pos aft g w;simp[execOp,resolve,invoke,builtin,hx,hy,Builtin.max_,Builtin.max2]
end
def zeroV(P:Program)(t:TypeId):Option Value:=(P.info? t).bind (·.zero)
def m4(P:Program)(t:TypeId):Option Nat:=(P.info? t).map (·.size)
def fx(P:Program)(t:TypeId):Option (Option Nat) :=
  match P.underlying t,P.info? t with
  | some (.struct _),some i|some (.array _ _),some i=>some (some i.size)
  | some _,some i=>if i.size=1 then some none else none
  | _,_=>none
def fo(P:Program)(t:TypeId)(k:Nat):Option (Nat×Option Nat) :=
  match P.underlying t with
  | some (.struct fs) =>
    match fs[k]? with
    | some f=>if m4 P f.type=some 0 then none else(fx P f.type).map fun a=>(f.offset,a)
    | none=>none
  | _=>none
theorem add_lit(g o n:Nat):(⟨g,o,none⟩:Addr).add n=⟨g,o+n,none⟩:=by unfold Addr.add;split<;>simp_all
section
variable {P:Program} {w0 w:World} {F0:List Nat} {L:List Item}
theorem St.cell{h:St w0 F0 w L}{i g:Nat}{ty:TypeId}{cs:List Value}(hi:L[i]?=some (bx g ty cs)):w.heap[g]?=some (.cells cs.toArray ty (0,0)):=by
  obtain⟨F,hF,_,_⟩:=h.own;obtain⟨Fi,q,_⟩:=hF.at_ i hi;exact q.2
theorem E0(w:World)(ty:TypeId)(cs:List Value):St w [] (w.alloc (.cells cs.toArray ty)) [bx w.heap.size ty cs] :=
  ⟨rfl,rfl,rfl,by simp,fun b hb _=>Below.heap_alloc w _ b hb,[w.heap.size],⟨[w.heap.size],[],rfl,⟨rfl,heap_alloc_new w _⟩,rfl⟩,by simp,by simp⟩
theorem eraseIdx_set:∀(L:List Item) (i:Nat) (y:Item),i<L.length->(y::L.eraseIdx i).Perm (L.set i y)
  | [],i,y,h=>by simp at h
  | a::L,0,y,h=>by simp
  | a::L,i+1,y,h=>by
    simp only[List.eraseIdx_cons_succ,List.set_cons_succ];exact(List.Perm.swap _ _ _).trans ((eraseIdx_set L i y (by simpa using h)).cons a)
theorem eF{α:Type}{L:List α}{i:Nat}{x:α}(h:L[i]?=some x):i<L.length:=by
  rcases Nat.lt_or_ge i L.length with h1|h1
  · exact h1
  · rw[List.getElem?_eq_none h1]at h;cases h
theorem St.setAt{w':World}{i:Nat}{x y:Item}(h:St w0 F0 w L)(hi:L[i]?=some x)
    (hx:∀F,x.p w F->F.Nodup->(∀b,b∈F->b<w.heap.size)->St w F w' [y]):St w0 F0 w' (L.set i y) :=
  (St.head (h.front i hi) hx).perm (eraseIdx_set L i y (eF hi))
theorem Pw(w:World){g:Nat}{ty:TypeId}{cs:Array Value}{ds:List Value}(hg:w.heap[g]?=some (.cells cs ty (0,0))):St w [g] (w.setRow g ds.toArray) [bx g ty ds] :=
  ⟨rfl,rfl,rfl,by simp,fun b _ hno=>setRow_other w g b ds.toArray (by simpa using hno),[g],⟨[g],[],rfl,⟨rfl,setRow_heap w g cs ds.toArray ty _ hg⟩,rfl⟩,by simp,
    fun b hb=>⟨.inl hb,by
      have:=(Array.getElem?_eq_some_iff.1 hg).1
      simp at hb;subst hb;simpa using this⟩⟩
theorem St.OK{i g:Nat}{ty:TypeId}{cs ds:List Value}(h:St w0 F0 w L)(hi:L[i]?=some (bx g ty cs)):St w0 F0 (w.setRow g ds.toArray) (L.set i (bx g ty ds)) :=
  h.setAt hi fun F hF _ _=>by
    obtain⟨rfl,hg⟩:=hF;exact Pw w hg
variable {n:Nat} {Q:iO} {e:Env} {ops:Array Oper} {rest:List Oper} {ty:TypeId} {pos:String} {aft:Array Edge} {d:Nat} {v:Value}
structure Fr (w w':World) (X:List Nat):Prop where
  size:w.heap.size<=w'.heap.size
  same:∀b,b<w.heap.size->b∉X->w'.heap[b]?=w.heap[b]?
theorem LW.alloc{t:TypeId}{z:Value}(hz:zeroV P t=some z)(hS:St w0 F0 w L)(hd:Nat.ble (d+1) n=true)
    (h:∀(g:Nat) (w':World),St w0 F0 w' (bx g t z.cells.toList::L)->Fr w w' []->LW P n ops Q rest (im e d (.pointer (some ⟨g,0,none⟩))) w') :
    LW P n ops Q (⟨some d,.alloc t,ty,pos,aft,none⟩::rest) e w:=by
  unfold zeroV at hz
  cases hi:P.info? t with
  | none=>rw[hi]at hz;cases hz
  | some i =>
    rw[hi]at hz;have hz':i.zero=some z:=hz;refine LW.run (w':=w.alloc (.cells z.cells t)) ?_ hd (h w.heap.size _ (by simpa using hS.add (E0 w t z.cells.toList)) ⟨by simp,fun b hb _=>Below.heap_alloc w _ b hb⟩);simp[execOp,Instr.alloc,zeroValue,typeInfo,hi,hz',newVar,newRow]
theorem LW.box{t:TypeId}{x:Operand}{cs:List Value}(hx:(ev e x).cells.toList=cs)(hS:St w0 F0 w L)(hd:Nat.ble (d+1) n=true)
    (h:∀(g:Nat) (w':World),St w0 F0 w' (bx g t cs::L)->Fr w w' []->LW P n ops Q rest (im e d (.pointer (some ⟨g,0,none⟩))) w') :
    LW P n ops Q (⟨some d,.box t x,ty,pos,aft,none⟩::rest) e w:=by
  subst hx;refine LW.run (w':=w.alloc (.cells (ev e x).cells t)) ?_ hd (h w.heap.size _ (by simpa using hS.add (E0 w t (ev e x).cells.toList)) ⟨by simp,fun b hb _=>Below.heap_alloc w _ b hb⟩);simp[execOp,Instr.box,newVar,newRow]
theorem nX{t:TypeId}{a:Option Nat}(ht:fx P t=some a):(isAgg t).run P w=.ok a.isSome w/\(sizeOf t).run P w=.ok (a.getD 1) w:=by
  unfold fx at ht
  cases hu:P.underlying t with
  | none=>simp[hu]at ht
  | some ds =>
    cases hi:P.info? t with
    | none=>cases ds<;>simp[hu,hi]at ht
    | some i =>
      cases ds<;>simp[hu,hi]at ht<;>first
        | (obtain⟨h1,h2⟩:=ht;subst h2;simp[isAgg,run_underlying hu,sizeOf,typeInfo,hi,h1])
        | (subst ht;simp[isAgg,run_underlying hu,sizeOf,typeInfo,hi])
variable {ρ:Operand->Value}
def wv:List Value->Nat->Option Value
  | [],_=>none
  | v::_,0=>some v
  | _::l,i+1=>wv l i
theorem x6:∀(l:List Value) (i:Nat),wv l i=l[i]?
  | [],i=>by simp[wv]
  | v::l,0=>by simp[wv]
  | v::l,i+1=>by simp[wv,x6 l i]
theorem fv.one{t:TypeId}{x:Operand}{a:Addr}(ht:fx P t=some none)(hx:ρ x=.pointer (some a)):fv P ρ (.load t x) (fun w=>w.cell? a=some v) v:=by
  intro d ty pos aft g w hc;simp[execOp,Instr.loadAt,Instr.sureAddr,hx,loadVar,(nX (w:=w) ht).1,hc]
theorem fv.agg{t:TypeId}{x:Operand}{b o m:Nat}{cs:List Value}(ht:fx P t=some (some m))(hx:ρ x=.pointer (some ⟨b,o,none⟩))(hl:cs.length=m):
    fv P ρ (.load t x) (fun w=>∀(j:Nat) (u:Value),cs[j]?=some u->w.cell? ⟨b,o+j,none⟩=some u) (.agg cs.toArray):=by
  intro d ty pos aft g w hc;subst hl;have hr:=run_loadCells_list (P:=P) w ⟨b,o,none⟩ cs (fun j u hu=>by rw[add_lit];exact hc j u hu);have:=nX (w:=w) ht;simp[execOp,Instr.loadAt,Instr.sureAddr,hx,loadVar,this.1,this.2,hr]
def rQ:List Value->Nat->Nat->List Value
  | _,_,0=>[]
  | [],_,_+1=>[]
  | v::l,0,m+1=>v::rQ l 0 m
  | _::l,i+1,m+1=>rQ l i (m+1)
theorem zl:∀(l:List Value) (o m j:Nat) (u:Value),(rQ l o m)[j]?=some u->l[o+j]?=some u
  | _,_,0,j,u,h=>by simp[rQ]at h
  | [],_,_+1,j,u,h=>by simp[rQ]at h
  | v::l,0,m+1,0,u,h=>by simpa[rQ]using h
  | v::l,0,m+1,j+1,u,h=>by
    have:=zl l 0 m j u (by simpa[rQ]using h);simpa using this
  | v::l,i+1,m+1,j,u,h=>by
    have:=zl l i (m+1) j u (by simpa[rQ]using h);rw[show i+1+j=(i+j)+1 by omega];simpa using this
theorem tT:∀(l:List Value) (o m:Nat),o+m<=l.length->(rQ l o m).length=m
  | _,_,0,h=>by simp[rQ]
  | [],_,m+1,h=>by simp at h
  | v::l,0,m+1,h=>by simp[rQ,tT l 0 m (by simp at h;omega)]
  | v::l,i+1,m+1,h=>by simp[rQ,tT l i (m+1) (by simp at h;omega)]
theorem fv.box{t bt:TypeId}{x:Operand}{g o:Nat}{cs:List Value}{fr:Nat×Nat}(ht:fx P t=some none)(hx:ρ x=.pointer (some ⟨g,o,none⟩))(hv:wv cs o=some v):fv P ρ (.load t x) (fun w=>w.heap[g]?=some (.cells cs.toArray bt fr)) v :=
  fun d ty pos aft gd w hc=>fv.one (a:=⟨g,o,none⟩) ht hx d ty pos aft gd w ((cell_of_row w g o cs.toArray bt fr hc).trans (by rw[x6]at hv;simpa using hv))
theorem fv.LI{t bt:TypeId}{x:Operand}{g o m:Nat}{cs:List Value}{fr:Nat×Nat}(ht:fx P t=some (some m))(hx:ρ x=.pointer (some ⟨g,o,none⟩))(hl:Nat.ble (o+m) cs.length=true):
    fv P ρ (.load t x) (fun w=>w.heap[g]?=some (.cells cs.toArray bt fr)) (.agg (rQ cs o m).toArray):=by
  have hl:=Nat.le_of_ble_eq_true hl;refine fun d ty pos aft gd w hc=>fv.agg ht hx (tT _ _ _ hl) d ty pos aft gd w (fun j u hu=>?_);rw[cell_of_row w g (o+j) cs.toArray bt fr hc];simpa using zl _ _ _ _ _ hu
theorem fv.iu{t:TypeId}{x:Operand}{a:Addr}(w1:World)(ht:fx P t=some none)(hx:ρ x=.pointer (some a))(hv:w1.cell? a=some v):fv P ρ (.load t x) (fun w=>w.heap[a.block]?=w1.heap[a.block]?) v :=
  fun d ty pos aft gd w hc=>fv.one (a:=a) ht hx d ty pos aft gd w ((World.cell?_of_block (w:=w1) hc).trans hv)
theorem fv.tH{t:TypeId}{x:Operand}{b o m:Nat}{cs:List Value}(w1:World)(ht:fx P t=some (some m))(hx:ρ x=.pointer (some ⟨b,o,none⟩))(hl:cs.length=m)(hv:∀(j:Nat) (u:Value),cs[j]?=some u->w1.cell? ⟨b,o+j,none⟩=some u):
    fv P ρ (.load t x) (fun w=>w.heap[b]?=w1.heap[b]?) (.agg cs.toArray) :=
  fun d ty pos aft gd w hc=>fv.agg ht hx hl d ty pos aft gd w (fun j u hu=>(World.cell?_of_block (w:=w1) (a:=⟨b,o+j,none⟩) hc).trans (hv j u hu))
theorem LW.Rk{t bt:TypeId}{x:Operand}{g o:Nat}{cs:List Value}(hS:St w0 F0 w L)(i:Nat)(hi:L[i]?=some (bx g bt cs))(ht:fx P t=some none)(hx:ev e x=.pointer (some ⟨g,o,none⟩))(hv:wv cs o=some v)(hd:Nat.ble (d+1) n=true)
    (h:LW P n ops Q rest (im e d v) w):LW P n ops Q (⟨some d,.load t x,ty,pos,aft,none⟩::rest) e w :=
  LW.l (fv.box ht hx hv) (St.cell (h:=hS) hi) hd h
theorem LW.QA{t bt:TypeId}{x:Operand}{g o m:Nat}{cs:List Value}(hS:St w0 F0 w L)(i:Nat)(hi:L[i]?=some (bx g bt cs))(ht:fx P t=some (some m))(hx:ev e x=.pointer (some ⟨g,o,none⟩))(hl:Nat.ble (o+m) cs.length=true)(hd:Nat.ble (d+1) n=true)
    (h:LW P n ops Q rest (im e d (.agg (rQ cs o m).toArray)) w):LW P n ops Q (⟨some d,.load t x,ty,pos,aft,none⟩::rest) e w :=
  LW.l (fv.LI ht hx hl) (St.cell (h:=hS) hi) hd h
def vq(cs:Array Value)(o:Nat)(vs:List Value):Array Value:=(cs.toList.take o++vs++cs.toList.drop (o+vs.length)).toArray
def ov:List Value->List Value->List Value
  | l,[]=>l
  | [],v::vs=>v::vs
  | _::l,v::vs=>v::ov l vs
def xS:List Value->Nat->List Value->List Value
  | l,0,vs=>ov l vs
  | [],_+1,vs=>vs
  | x::l,i+1,vs=>x::xS l i vs
theorem MO:∀(l vs:List Value),vs.length<=l.length->ov l vs=vs++l.drop vs.length
  | l,[],_=>by cases l<;>simp[ov]
  | [],v::vs,h=>by simp at h
  | x::l,v::vs,h=>by simp[ov,MO l vs (by simpa using h)]
theorem AK:∀(l:List Value) (i:Nat) (vs:List Value),i+vs.length<=l.length->xS l i vs=l.take i++vs++l.drop (i+vs.length)
  | l,0,vs,h=>by
    have:=MO l vs (by omega);cases l<;>simpa[xS]using this
  | [],i+1,vs,h=>by simp at h
  | x::l,i+1,vs,h=>by
    have:=AK l i vs (by simp at h;omega);simp[xS,this,show i+1+vs.length=(i+vs.length)+1 by omega]
theorem LW.Qm{t bt:TypeId}{x y:Operand}{a:Option Nat}{g o:Nat}{cs vs:List Value}(hS:St w0 F0 w L)(i:Nat)(hi:L[i]?=some (bx g bt cs))(ht:fx P t=some a)(hx:ev e x=.pointer (some ⟨g,o,none⟩))
    (hy:(ev e y).cells.toList=vs) (hm:vs.length=a.getD 1) (hl:Nat.ble (o+vs.length) cs.length=true) (h1:vs.all (·.oneCell')=true)
    (h:∀w':World,St w0 F0 w' (L.set i (bx g bt (xS cs o vs)))->Fr w w' [g]->LW P n ops Q rest e w'):LW P n ops Q (⟨none,.store t x y,ty,pos,aft,none⟩::rest) e w:=by
  have hg:=St.cell (h:=hS) hi;have hl:=Nat.le_of_ble_eq_true hl;have hr:=run_storeCells_at P g o bt vs 0 cs.toArray w hg (by simpa using hl) (fun u hu=>List.all_eq_true.1 h1 u hu);simp only[Nat.add_zero]at hr;rw[<- AK cs o vs (by omega)]at hr;refine LW.B2 (w':=w.setRow g (xS cs o vs).toArray) ?_ (h _ (hS.OK hi) ⟨by simp,fun b _ hb=>setRow_other w g b _ (by simpa using hb)⟩);have:=nX (w:=w) ht
  have hy2:(ev e y).cells.size=a.getD 1:=by rw[<- hm, <- hy,Array.length_toList]
  simp[execOp,Instr.storeAt,Instr.sureAddr,hx,storeVar,hy,hy2,this.2,hr]
theorem Hn{t:TypeId}{k off:Nat}{a:Option Nat}(h:fo P t k=some (off,a)):∃fs f i,P.underlying t=some (.struct fs)/\fs[k]?=some f/\f.offset=off/\P.info? f.type=some i/\i.size ≠ 0/\fx P f.type=some a:=by
  unfold fo at h;split at h
  · rename_i fs hu;split at h
    · rename_i f hf;split at h
      · cases h
      · rename_i hz
        cases ha:fx P f.type with
        | none=>rw[ha]at h;cases h
        | some a' =>
          rw[ha]at h;simp at h;obtain⟨h1,h2⟩:=h;subst h1;subst h2
          cases hi:P.info? f.type with
          | none =>
            unfold fx at ha;rw[hi]at ha;split at ha<;>simp_all
          | some i=>exact⟨fs,f,i,hu,hf,rfl,hi,fun h0=>hz (by simp[m4,hi,h0]),ha⟩
    · cases h
  · cases h
theorem dL.fa{t:TypeId}{x:Operand}{k off g o:Nat}{a:Option Nat}(hf:fo P t k=some (off,a))(hx:ρ x=.pointer (some ⟨g,o,none⟩)):dL P ρ (.fieldAddr t x k) (.pointer (some ⟨g,o+off,none⟩)):=by
  intro d ty pos aft gd w;obtain⟨fs,f,i,hu,hk,rfl,hi,hne,ha⟩:=Hn hf;simp[execOp,Instr.fieldAt,run_underlying hu,hk,hx,Instr.sureAddr,fieldPlace,sizeOf,typeInfo,hi,hne,add_lit]
theorem dL.fd{t:TypeId}{x:Operand}{k off:Nat}{cs:Array Value}(hf:fo P t k=some (off,none))(hx:ρ x=.agg cs)(hv:wv cs.toList off=some v):dL P ρ (.field t x k) v:=by
  intro d ty pos aft gd w
  have hv:cs[off]?=some v:=by rw[x6]at hv;simpa using hv
  obtain⟨fs,f,i,hu,hk,rfl,hi,hne,ha⟩:=Hn hf;simp[execOp,Instr.field,run_underlying hu,hk,hx,asAgg,part,(nX (w:=w) ha).1,hv]
theorem dL.ix{t el:TypeId}{x y:Operand}{b o l c m:Nat}{k:IntKind}{i:Int}(ht:P.underlying t=some (.slice el))(hm:m4 P el=some m)(hx:ρ x=.slice (some ⟨b,o,none⟩) l c)(hy:ρ y=.int k i)(h0:0<=i)(h1:i<l):
    dL P ρ (.indexAddr t x y) (.pointer (some ⟨b,o+i.toNat*m,none⟩)):=by
  intro d ty pos aft gd w
  cases hi:P.info? el with
  | none=>simp[m4,hi]at hm
  | some inf =>
    have hm':inf.size=m:=by simpa[m4,hi]using hm
    simp[execOp,Instr.indexAt,hx,hy,asIntOf,run_underlying ht,h0,h1,sizeOf,typeInfo,hi,hm',add_lit]
theorem dL.nc{x:Operand}{a:Addr}(hx:ρ x=.pointer (some a)):dL P ρ (.nilCheck x) (.pointer (some a)):=by
  intro d ty pos aft gd w;simp[execOp,hx]
theorem dL.build{t:TypeId}{parts:Array (Nat×Operand)}{vs:List (Nat×Value)}{cs:Array Value}(hp:parts.toList.map (fun p=>(p.1,ρ p.2))=vs)(hb:P.built t vs=some cs):dL P ρ (.build t parts) (.agg cs):=by
  intro d ty pos aft gd w
  have hp':(parts.map fun(i,x)=>(i,ρ x)).toList=vs:=by rw[<- hp];simp
  subst hp';simp only[execOp,Sem.run_bind,run_build w t _ cs hb,Result.andThen_ok];rfl
end
def df:Nat:=16777216
def idx{α:Type}(l:List α)(i:Int):Option α:=if 0<=i then l[i.toNat]? else none
def app{α:Type}(l m:List α):Option (List α):=if l.length+m.length<df then some (l++m)else none
def mk(α:Type)[dp α](n:Int):Option (List α):=if 0<=n/\n.toNat<df then some (List.replicate n.toNat dp.zero)else none
def Qp(P:Program)(t:TypeId):Option (TypeId×Nat×Nat×List Value) :=
  match P.underlying t with
  | some (.slice e) =>
    match P.info? e with
    | some i=>match i.zero with
      | some z=>some (e,i.size,i.bytes,z.cells.toList)
      | none=>none
    | none=>none
  | _=>none
structure jI (P:Program) (t:TypeId) (α:Type) [dp α]:Prop where
  zu:P.underlying t=some (.slice (dp.ty α))
  info:∃i z,P.info? (dp.ty α)=some i/\i.zero=some z/\i.size=dp.sz α/\i.bytes<=4096/\z.cells.toList=dp.zc α
theorem jI.of{P:Program}{t:TypeId}{α:Type}[dp α]{b:Nat}(h:Qp P t=some (dp.ty α,dp.sz α,b,dp.zc α))(hb:Nat.ble b 4096=true):jI P t α:=by
  unfold Qp at h;split at h
  · rename_i el hu;split at h
    · rename_i i hi;split at h
      · rename_i z hz;simp only[Option.some.injEq,Prod.mk.injEq]at h;obtain⟨h1,h2,h3,h4⟩:=h;subst h1;subst h3;exact⟨hu,i,z,hi,hz,h2,Nat.le_of_ble_eq_true hb,h4⟩
      · cases h
    · cases h
  · cases h
section
variable {P:Program} {w0 w:World} {F0:List Nat} {L M:List Item} {α:Type} [dp α]
theorem dX.idx{S:Nat->Prop}{a:Option Addr}{c:Nat}{l:List α}(h:dX S w a c l){i:Int}{x:α}(hx:idx l i=some x):
    ∃b o cs,a=some ⟨b,o,none⟩/\S b/\0<=i/\i<(l.length:Int)/\dp.rd S w cs x/\∀(j:Nat) (u:Value),cs[j]?=some u->w.cell? ⟨b,o+i.toNat*dp.sz α+j,none⟩=some u:=by
  unfold Kx.idx at hx;split at hx
  · rename_i h0;have hlt:=eF hx
    have hne:l ≠ []:=by rintro rfl;simp at hlt
    obtain⟨b,o,ha,hb,hc⟩:=h.cells hne;obtain⟨cs,h1,h2⟩:=hc _ _ hx;exact⟨b,o,cs,ha,hb,h0,by omega,h1,h2⟩
  · cases hx
theorem St.P7{a:Option Addr}{c:Nat}{l:List α}(h:St w0 F0 w L)(hr:dX (eJ w0 F0) w0 a c l):dX (eJ w0 F0) w a c l :=
  hr.iS fun b hb=>h.same b hb.1 hb.2
theorem jA.dA{a:Option Addr}{c:Nat}{F:List Nat}{l:List α}{k:Int}{x:α}(q:jA w a c F l)(hx:idx l k=some x):∃g o,a=some ⟨g,o,none⟩/\0<=k/\k<(l.length:Int):=by
  unfold Kx.idx at hx;split at hx
  · rename_i h0;have hlt:=eF hx
    rcases q with⟨_,_,rfl,_⟩|⟨g,o,cur,F',ha,_⟩
    · simp at hlt
    · exact⟨g,o,ha,h0,by omega⟩
  · cases hx
theorem St.dA{i:Nat}{a:Option Addr}{c:Nat}{l:List α}{k:Int}{x:α}(h:St w0 F0 w L)(hi:L[i]?=some (sl a c l))(hx:idx l k=some x):
    ∃g o,a=some ⟨g,o,none⟩/\0<=k/\k<(l.length:Int):=by
  obtain⟨F,hF,_,_⟩:=h.own;obtain⟨Fi,q,_⟩:=hF.at_ i hi;exact jA.dA q hx
theorem Ht(c0 c1 c2 vs:List Value)(o:Nat)(h:o+vs.length<=c1.length):
    (c0++(c1++c2)).take (c0.length+o)++vs++(c0++(c1++c2)).drop (c0.length+o+vs.length)=c0++((c1.take o++vs++c1.drop (o+vs.length))++c2):=by
  rw[List.take_length_add_append,List.take_append_of_le_length (by omega),Nat.add_assoc,List.drop_length_add_append,List.drop_append_of_le_length (by omega)];simp
theorem NY{a:Option Addr}{c:Nat}{F:List Nat}{l:List α}{k:Nat}{x:α}(h:jA w a c F l)(hn:F.Nodup)(hk:l[k]?=some x):
    ∃g o cur c0 c1 c2 Fk,a=some ⟨g,o,none⟩/\w.heap[g]?=some (.cells cur (dp.ty α) (0,0))/\cur.toList=c0++(c1++c2)/\c0.length=o+k*dp.sz α/\dp.own w c1 Fk x/\g∈F/\g∉Fk/\(∀b,b∈Fk->b∈F)/\Fk.Nodup /\
      ∀(w':World) (cur':Array Value) (d1:List Value) (G:List Nat) (y:α),dp.own w' d1 G y->w'.heap[g]?=some (.cells cur' (dp.ty α) (0,0))->cur'.toList=c0++(d1++c2) ->
        (∀b,b∈F->b∉Fk->b ≠ g->w'.heap[b]?=w.heap[b]?)->(∀b,b∈G->b∉F\/b∈Fk)->G.Nodup ->
        ∃F',jA w' a c F' (l.set k y)/\F'.Nodup/\(∀b,b∈F'->b∈F\/b∈G):=by
  have hlt:=eF hk
  rcases h with⟨_,_,rfl,_⟩|⟨g,o,cur,F',ha,hg,hs,h1,h2,rfl,he⟩
  · simp at hlt
  · obtain⟨c0,c1,c2,G0,G1,G2,hc,hF,hl,q1,q2⟩:=he.set k hk;have hl1:=dp.eQ q1
    have ho:o<=cur.size:=by omega
    have hto:(cur.toList.take o).length=o:=by rw[List.length_take,Array.length_toList];omega
    have hcc:cur.toList=(cur.toList.take o++c0)++(c1++c2):=by rw[List.append_assoc, <- hc,List.take_append_drop]
    have hsz:cur.size=o+(c0.length+(c1.length+c2.length)):=by rw[<- Array.length_toList,hcc];simp[hto, -Array.length_toList]<;>omega
    subst hF;obtain⟨hgn,hnd⟩:=List.nodup_cons.1 hn;obtain⟨n0,n12,d0⟩:=List.nodup_append.1 hnd;obtain⟨n1,n2,d12⟩:=List.nodup_append.1 n12;refine⟨g,o,cur,_,c1,c2,G1,ha,hg,hcc,by rw[List.length_append,hto,hl],q1,by simp,fun h=>hgn (by simp[h]),fun b hb=>by simp[hb],n1,?_⟩;intro w' cur' d1 G y hy hg' hsp hb hG hGn;have hld:=dp.eQ hy
    have hfr:∀b,b∈G0++G2->w'.heap[b]?=w.heap[b]?:=by
      intro b hbb
      have hm:b∈G0++(G1++G2):=by
        rcases List.mem_append.1 hbb with h|h<;>simp[h]
      refine hb b (List.mem_cons_of_mem _ hm) (fun h1=>?_) (fun h=>hgn (h ▸ hm))
      rcases List.mem_append.1 hbb with h|h
      · exact d0 b h b (List.mem_append_left _ h1) rfl
      · exact d12 b h1 b h rfl
    have hEls:=q2 w' d1 G y hy hfr
    have hGout:∀b,b∈G->b ≠ g/\b∉G0/\b∉G2:=by
      intro b hbG;have key:b∈G1\/b∉(g::(G0++(G1++G2))):=(hG b hbG).symm
      rcases key with h|h
      · refine⟨fun e=>hgn (by simp[<- e,h]),fun h0=>d0 b h0 b (List.mem_append_left _ h) rfl,fun h2=>d12 b h b h2 rfl⟩
      · simp at h;exact⟨h.1,h.2.1,h.2.2.2⟩
    have hdr:cur'.toList.drop o=c0++(d1++c2):=by
      rw[hsp,List.append_assoc];exact List.drop_left' hto
    refine⟨g::(G0++(G++G2)),.inr ⟨g,o,_,_,ha,hg',?_,by simpa using h1,h2,rfl,?_⟩,?_,?_⟩
    · have:cur'.size=cur.size:=by
        rw[<- Array.length_toList,hsp,hsz];simp[hld,hl1,hto]<;>omega
      rw[this];exact hs
    · rw[hdr];exact hEls
    · refine List.nodup_cons.2 ⟨?_,List.nodup_append.2 ⟨n0,List.nodup_append.2 ⟨hGn,n2,fun a ha b hb e=>(hGout a ha).2.2 (e ▸ hb)⟩,?_⟩⟩
      · intro hm
        rcases List.mem_append.1 hm with h|h
        · exact hgn (by simp[h])
        · rcases List.mem_append.1 h with h|h
          · exact(hGout g h).1 rfl
          · exact hgn (by simp[h])
      · intro a ha b hb e;subst e
        rcases List.mem_append.1 hb with h|h
        · exact(hGout a h).2.1 ha
        · exact d0 a ha a (List.mem_append_right _ h) rfl
    · intro b hb;simp at hb⊢
      rcases hb with h|h|h|h<;>simp[h]
theorem St.KA{i:Nat}{a:Option Addr}{c:Nat}{l:List α}{k:Int}{x y:α}{o:Nat}{vs:List Value}(h:St w0 F0 w (M++L))(hi:L[i]?=some (sl a c l))(hx:Kx.idx l k=some x)
    (hold:o+vs.length<=dp.sz α) (hM:∀(w:World) (cs:List Value) (F G:List Nat),dp.own w cs F x->eH M w G->∃F',dp.own w (cs.take o++vs++cs.drop (o+vs.length)) F' y/\(∀b,b∈F'->b∈F\/b∈G)/\(F.Nodup->G.Nodup->(∀b,b∈F->b∉G)->F'.Nodup)) :
    ∃g o0 cur,a=some ⟨g,o0,none⟩/\0<=k/\k<(l.length:Int)/\w.heap[g]?=some (.cells cur (dp.ty α) (0,0))/\o0+k.toNat*dp.sz α+o+vs.length<=cur.size /\
      St w0 F0 (w.setRow g (vq cur (o0+k.toNat*dp.sz α+o) vs)) (L.set i (sl a c (l.set k.toNat y))):=by
  unfold Kx.idx at hx;split at hx
  case isFalse=>cases hx
  case isTrue h0 =>
  have hlt:=eF hx
  have h':St w0 F0 w ((sl a c l::M)++L.eraseIdx i):=by
    have:=h.front (M.length+i) (x:=sl a c l) (by rw[List.getElem?_append_right (by omega),Nat.add_sub_cancel_left];exact hi);refine this.perm ?_
    have e:(M++L).eraseIdx (M.length+i)=M++L.eraseIdx i:=by
      rw[List.eraseIdx_append_of_length_le (by omega)];simp
    rw[e];simp
  obtain⟨F,hF,hn,hlt2,_,_,hm⟩:=h'.share;obtain⟨F1,F2,rfl,q1,q2⟩:=hF;obtain⟨n1,n2,nd⟩:=List.nodup_append.1 hn;obtain⟨g,o0,cur,c0,c1,c2,Fk,ha,hg,hc,hl0,r1,r2,hgk,r3,nk,r5⟩:=NY q1 n1 hx;have hl1:=dp.eQ r1
  have hsz:cur.size=c0.length+(c1.length+c2.length):=by rw[<- Array.length_toList,hc];simp
  refine⟨g,o0,cur,ha,h0,by omega,hg,by omega,?_⟩;generalize hw':w.setRow g (vq cur (o0+k.toNat*dp.sz α+o) vs)=w'
  have hgw:w'.heap[g]?=some (.cells (vq cur (o0+k.toNat*dp.sz α+o) vs) (dp.ty α) (0,0)):=by subst hw';exact setRow_heap w g cur _ _ _ hg
  have hoth:∀b,b ≠ g->w'.heap[b]?=w.heap[b]?:=by subst hw';exact fun b hb=>setRow_other w g b _ hb
  have hsize:w'.heap.size=w.heap.size:=by subst hw';simp
  have hown1:dp.own w' c1 Fk x:=dp.fN r1 fun b hb=>hoth b fun e=>hgk (e ▸ hb);have hMw:eH M w' F2:=q2.frame fun b hb=>hoth b fun e=>nd g r2 b hb e.symm;obtain⟨F',t1,t2,t3⟩:=hM w' c1 Fk F2 hown1 hMw
  have hcur:(vq cur (o0+k.toNat*dp.sz α+o) vs).toList=c0++((c1.take o++vs++c1.drop (o+vs.length))++c2):=by
    unfold vq;rw[hc, <- hl0];exact Ht c0 c1 c2 vs o (by omega)
  obtain⟨F3,u1,u2,u3⟩:=r5 w' _ _ F' y t1 hgw hcur (fun b _ _ hne=>hoth b hne)
    (fun b hb=>(t2 b hb).elim (fun h=>.inr h) (fun h=>.inl fun h1=>nd b h1 b h rfl)) (t3 nk n2 (fun b hb hb2=>nd b (r3 b hb) b hb2 rfl))
  refine(hm w' [sl a c (l.set k.toNat y)] ?_).perm (eraseIdx_set L i _ (eF hi))
  have hF3:∀b,b∈F3->b∈F1++F2:=fun b hb=>by
    rcases u3 b hb with h|h
    · exact List.mem_append_left _ h
    · rcases t2 b h with h|h
      · exact List.mem_append_left _ (r3 b h)
      · exact List.mem_append_right _ h
  refine⟨by subst hw';rfl,by subst hw';rfl,by subst hw';rfl,by omega,fun b _ hno=>hoth b fun e=>hno (e ▸ List.mem_append_left _ r2),F3,⟨F3,[],by simp,u1,rfl⟩,u2,fun b hb=>⟨.inl (hF3 b hb),?_⟩⟩;rw[hsize];exact hlt2 b (hF3 b hb)
end
end Go.Kx
