import Derived.Test.YtdlodpchnaojhaaGreatOps
import Derived.Maps.AppendAt
namespace Go.Kx
open Go Go.RowKit
set_option linter.unusedVariables false
set_option linter.unusedSimpArgs false
def zeroV (P:Program) (t:TypeId):Option Value:=(P.info? t).bind (·.zero)
def nF (P:Program) (t:TypeId):Option Nat:=(P.info? t).map (·.size)
def jl (P:Program) (t:TypeId):Option (Option Nat) :=
  match P.underlying t,P.info? t with
  | some (.struct _),some i | some (.array _ _),some i=>some (some i.size)
  | some _,some i=>if i.size=1 then some none else none
  | _,_=>none
def fo (P:Program) (t:TypeId) (k:Nat):Option (Nat×Option Nat) :=
  match P.underlying t with
  | some (.struct fs) =>
    match fs[k]? with
    | some f=>if nF P f.type=some 0 then none else (jl P f.type).map fun a=>(f.offset,a)
    | none=>none
  | _=>none
theorem add_lit (g o n:Nat):(⟨g,o,none⟩:Addr).add n=⟨g,o+n,none⟩:=by unfold Addr.add;split<;>simp_all
section
variable {P:Program} {w0 w:World} {F0:List Nat} {L:List Item}
theorem St.cell {h:St w0 F0 w L} {i g:Nat} {ty:TypeId} {cs:List Value} (hi:L[i]?=some (bx g ty cs)):w.heap[g]?=some (.cells cs.toArray ty (0,0)):=by
  obtain ⟨F,hF,_,_⟩:=h.own;obtain ⟨Fi,q,_⟩:=hF.at_ i hi;exact q.2
theorem D9 (w:World) (ty:TypeId) (cs:List Value):St w [] (w.alloc (.cells cs.toArray ty)) [bx w.heap.size ty cs] :=
  ⟨rfl,rfl,rfl,by simp,fun b hb _=>Below.heap_alloc w _ b hb,[w.heap.size],⟨[w.heap.size],[],rfl,⟨rfl,heap_alloc_new w _⟩,rfl⟩,by simp,by simp⟩
theorem eraseIdx_set:∀ (L:List Item) (i:Nat) (y:Item),i<L.length→(y::L.eraseIdx i).Perm (L.set i y)
  | [],i,y,h=>by simp at h
  | a::L,0,y,h=>by simp
  | a::L,i+1,y,h=>by
    simp only [List.eraseIdx_cons_succ,List.set_cons_succ];exact (List.Perm.swap _ _ _).trans ((eraseIdx_set L i y (by simpa using h)).cons a)
theorem ja {α:Type} {L:List α} {i:Nat} {x:α} (h:L[i]?=some x):i<L.length:=by
  rcases Nat.lt_or_ge i L.length with h1 | h1
  · exact h1
  · rw [List.getElem?_eq_none h1] at h;cases h
theorem St.setAt {w':World} {i:Nat} {x y:Item} (h:St w0 F0 w L) (hi:L[i]?=some x)
    (hx:∀ F,x.p w F→F.Nodup→(∀ b,b ∈ F→b<w.heap.size)→St w F w' [y]):St w0 F0 w' (L.set i y) :=
  (St.head (h.front i hi) hx).perm (eraseIdx_set L i y (ja hi))
theorem Lp (w:World) {g:Nat} {ty:TypeId} {cs:Array Value} {ds:List Value} (hg:w.heap[g]?=some (.cells cs ty (0,0))):St w [g] (w.setRow g ds.toArray) [bx g ty ds] :=
  ⟨rfl,rfl,rfl,by simp,fun b _ hno=>setRow_other w g b ds.toArray (by simpa using hno),[g],⟨[g],[],rfl,⟨rfl,setRow_heap w g cs ds.toArray ty _ hg⟩,rfl⟩,by simp,
    fun b hb=>⟨.inl hb,by
      have:=(Array.getElem?_eq_some_iff.1 hg).1
      simp at hb;subst hb;simpa using this⟩⟩
theorem St.Mp {i g:Nat} {ty:TypeId} {cs ds:List Value} (h:St w0 F0 w L) (hi:L[i]?=some (bx g ty cs)):St w0 F0 (w.setRow g ds.toArray) (L.set i (bx g ty ds)) :=
  h.setAt hi fun F hF _ _=>by
    obtain ⟨rfl,hg⟩:=hF;exact Lp w hg
variable {n:Nat} {Q:kN} {e:Env} {ops:Array Oper} {rest:List Oper} {ty:TypeId} {pos:String} {aft:Array Edge} {d:Nat} {v:Value}
structure Fr (w w':World) (X:List Nat):Prop where
  size:w.heap.size≤w'.heap.size
  same:∀ b,b<w.heap.size→b ∉ X→w'.heap[b]?=w.heap[b]?
theorem LW.alloc {t:TypeId} {z:Value} (hz:zeroV P t=some z) (hS:St w0 F0 w L) (hd:Nat.ble (d+1) n=true)
    (h:∀ (g:Nat) (w':World),St w0 F0 w' (bx g t z.cells.toList::L)→Fr w w' []→LW P n ops Q rest (kC e d (.pointer (some ⟨g,0,none⟩))) w') :
    LW P n ops Q (⟨some d,.alloc t,ty,pos,aft,none⟩::rest) e w:=by
  unfold zeroV at hz
  cases hi:P.info? t with
  | none=>rw [hi] at hz;cases hz
  | some i =>
    rw [hi] at hz;have hz':i.zero=some z:=hz;refine LW.run (w':=w.alloc (.cells z.cells t)) ?_ hd (h w.heap.size _ (by simpa using hS.add (D9 w t z.cells.toList)) ⟨by simp,fun b hb _=>Below.heap_alloc w _ b hb⟩);simp [execOp,Instr.alloc,zeroValue,typeInfo,hi,hz',newVar,newRow]
theorem LW.box {t:TypeId} {x:Operand} {cs:List Value} (hx:(ev e x).cells.toList=cs) (hS:St w0 F0 w L) (hd:Nat.ble (d+1) n=true)
    (h:∀ (g:Nat) (w':World),St w0 F0 w' (bx g t cs::L)→Fr w w' []→LW P n ops Q rest (kC e d (.pointer (some ⟨g,0,none⟩))) w') :
    LW P n ops Q (⟨some d,.box t x,ty,pos,aft,none⟩::rest) e w:=by
  subst hx;refine LW.run (w':=w.alloc (.cells (ev e x).cells t)) ?_ hd (h w.heap.size _ (by simpa using hS.add (D9 w t (ev e x).cells.toList)) ⟨by simp,fun b hb _=>Below.heap_alloc w _ b hb⟩);simp [execOp,Instr.box,newVar,newRow]
theorem pt {t:TypeId} {a:Option Nat} (ht:jl P t=some a):(isAgg t).run P w=.ok a.isSome w∧(sizeOf t).run P w=.ok (a.getD 1) w:=by
  unfold jl at ht
  cases hu:P.underlying t with
  | none=>simp [hu] at ht
  | some ds =>
    cases hi:P.info? t with
    | none=>cases ds<;>simp [hu,hi] at ht
    | some i =>
      cases ds<;>simp [hu,hi] at ht<;>first
        | (obtain ⟨h1,h2⟩:=ht;subst h2;simp [isAgg,run_underlying hu,sizeOf,typeInfo,hi,h1])
        | (subst ht;simp [isAgg,run_underlying hu,sizeOf,typeInfo,hi])
variable {ρ:Operand→Value}
def v8:List Value→Nat→Option Value
  | [],_=>none
  | v::_,0=>some v
  | _::l,i+1=>v8 l i
theorem yw:∀ (l:List Value) (i:Nat),v8 l i=l[i]?
  | [],i=>by simp [v8]
  | v::l,0=>by simp [v8]
  | v::l,i+1=>by simp [v8,yw l i]
theorem jf.one {t:TypeId} {x:Operand} {a:Addr} (ht:jl P t=some none) (hx:ρ x=.pointer (some a)):jf P ρ (.load t x) (fun w=>w.cell? a=some v) v:=by
  intro d ty pos aft g w hc;simp [execOp,Instr.loadAt,Instr.sureAddr,hx,loadVar,(pt (w:=w) ht).1,hc]
theorem jf.agg {t:TypeId} {x:Operand} {b o m:Nat} {cs:List Value} (ht:jl P t=some (some m)) (hx:ρ x=.pointer (some ⟨b,o,none⟩)) (hl:cs.length=m) :
    jf P ρ (.load t x) (fun w=>∀ (j:Nat) (u:Value),cs[j]?=some u→w.cell? ⟨b,o+j,none⟩=some u) (.agg cs.toArray):=by
  intro d ty pos aft g w hc;subst hl;have hr:=run_loadCells_list (P:=P) w ⟨b,o,none⟩ cs (fun j u hu=>by rw [add_lit];exact hc j u hu);have:=pt (w:=w) ht;simp [execOp,Instr.loadAt,Instr.sureAddr,hx,loadVar,this.1,this.2,hr]
def sh:List Value→Nat→Nat→List Value
  | _,_,0=>[]
  | [],_,_+1=>[]
  | v::l,0,m+1=>v::sh l 0 m
  | _::l,i+1,m+1=>sh l i (m+1)
theorem yN:∀ (l:List Value) (o m j:Nat) (u:Value),(sh l o m)[j]?=some u→l[o+j]?=some u
  | _,_,0,j,u,h=>by simp [sh] at h
  | [],_,_+1,j,u,h=>by simp [sh] at h
  | v::l,0,m+1,0,u,h=>by simpa [sh] using h
  | v::l,0,m+1,j+1,u,h=>by
    have:=yN l 0 m j u (by simpa [sh] using h);simpa using this
  | v::l,i+1,m+1,j,u,h=>by
    have:=yN l i (m+1) j u (by simpa [sh] using h);rw [show i+1+j=(i+j)+1 by omega];simpa using this
theorem tN:∀ (l:List Value) (o m:Nat),o+m≤l.length→(sh l o m).length=m
  | _,_,0,h=>by simp [sh]
  | [],_,m+1,h=>by simp at h
  | v::l,0,m+1,h=>by simp [sh,tN l 0 m (by simp at h;omega)]
  | v::l,i+1,m+1,h=>by simp [sh,tN l i (m+1) (by simp at h;omega)]
theorem jf.box {t bt:TypeId} {x:Operand} {g o:Nat} {cs:List Value} {fr:Nat×Nat} (ht:jl P t=some none) (hx:ρ x=.pointer (some ⟨g,o,none⟩)) (hv:v8 cs o=some v):jf P ρ (.load t x) (fun w=>w.heap[g]?=some (.cells cs.toArray bt fr)) v :=
  fun d ty pos aft gd w hc=>jf.one (a:=⟨g,o,none⟩) ht hx d ty pos aft gd w ((cell_of_row w g o cs.toArray bt fr hc).trans (by rw [yw] at hv;simpa using hv))
theorem jf.I8 {t bt:TypeId} {x:Operand} {g o m:Nat} {cs:List Value} {fr:Nat×Nat} (ht:jl P t=some (some m)) (hx:ρ x=.pointer (some ⟨g,o,none⟩)) (hl:Nat.ble (o+m) cs.length=true) :
    jf P ρ (.load t x) (fun w=>w.heap[g]?=some (.cells cs.toArray bt fr)) (.agg (sh cs o m).toArray):=by
  have hl:=Nat.le_of_ble_eq_true hl;refine fun d ty pos aft gd w hc=>jf.agg ht hx (tN _ _ _ hl) d ty pos aft gd w (fun j u hu=>?_);rw [cell_of_row w g (o+j) cs.toArray bt fr hc];simpa using yN _ _ _ _ _ hu
theorem jf.jX {t:TypeId} {x:Operand} {a:Addr} (w1:World) (ht:jl P t=some none) (hx:ρ x=.pointer (some a)) (hv:w1.cell? a=some v):jf P ρ (.load t x) (fun w=>w.heap[a.block]?=w1.heap[a.block]?) v :=
  fun d ty pos aft gd w hc=>jf.one (a:=a) ht hx d ty pos aft gd w ((World.cell?_of_block (w:=w1) hc).trans hv)
theorem jf.tR {t:TypeId} {x:Operand} {b o m:Nat} {cs:List Value} (w1:World) (ht:jl P t=some (some m)) (hx:ρ x=.pointer (some ⟨b,o,none⟩)) (hl:cs.length=m) (hv:∀ (j:Nat) (u:Value),cs[j]?=some u→w1.cell? ⟨b,o+j,none⟩=some u) :
    jf P ρ (.load t x) (fun w=>w.heap[b]?=w1.heap[b]?) (.agg cs.toArray) :=
  fun d ty pos aft gd w hc=>jf.agg ht hx hl d ty pos aft gd w (fun j u hu=>(World.cell?_of_block (w:=w1) (a:=⟨b,o+j,none⟩) hc).trans (hv j u hu))
theorem LW.NW {t bt:TypeId} {x:Operand} {g o:Nat} {cs:List Value} (hS:St w0 F0 w L) (i:Nat) (hi:L[i]?=some (bx g bt cs)) (ht:jl P t=some none) (hx:ev e x=.pointer (some ⟨g,o,none⟩)) (hv:v8 cs o=some v) (hd:Nat.ble (d+1) n=true)
    (h:LW P n ops Q rest (kC e d v) w):LW P n ops Q (⟨some d,.load t x,ty,pos,aft,none⟩::rest) e w :=
  LW.l (jf.box ht hx hv) (St.cell (h:=hS) hi) hd h
theorem LW.Nz {t bt:TypeId} {x:Operand} {g o m:Nat} {cs:List Value} (hS:St w0 F0 w L) (i:Nat) (hi:L[i]?=some (bx g bt cs)) (ht:jl P t=some (some m)) (hx:ev e x=.pointer (some ⟨g,o,none⟩)) (hl:Nat.ble (o+m) cs.length=true) (hd:Nat.ble (d+1) n=true)
    (h:LW P n ops Q rest (kC e d (.agg (sh cs o m).toArray)) w):LW P n ops Q (⟨some d,.load t x,ty,pos,aft,none⟩::rest) e w :=
  LW.l (jf.I8 ht hx hl) (St.cell (h:=hS) hi) hd h
def vB (cs:Array Value) (o:Nat) (vs:List Value):Array Value:=(cs.toList.take o++vs++cs.toList.drop (o+vs.length)).toArray
def ov:List Value→List Value→List Value
  | l,[]=>l
  | [],v::vs=>v::vs
  | _::l,v::vs=>v::ov l vs
def xH:List Value→Nat→List Value→List Value
  | l,0,vs=>ov l vs
  | [],_+1,vs=>vs
  | x::l,i+1,vs=>x::xH l i vs
theorem Kf:∀ (l vs:List Value),vs.length≤l.length→ov l vs=vs++l.drop vs.length
  | l,[],_=>by cases l<;>simp [ov]
  | [],v::vs,h=>by simp at h
  | x::l,v::vs,h=>by simp [ov,Kf l vs (by simpa using h)]
theorem Av:∀ (l:List Value) (i:Nat) (vs:List Value),i+vs.length≤l.length→xH l i vs=l.take i++vs++l.drop (i+vs.length)
  | l,0,vs,h=>by
    have:=Kf l vs (by omega);cases l<;>simpa [xH] using this
  | [],i+1,vs,h=>by simp at h
  | x::l,i+1,vs,h=>by
    have:=Av l i vs (by simp at h;omega);simp [xH,this,show i+1+vs.length=(i+vs.length)+1 by omega]
theorem LW.M9 {t bt:TypeId} {x y:Operand} {a:Option Nat} {g o:Nat} {cs vs:List Value} (hS:St w0 F0 w L) (i:Nat) (hi:L[i]?=some (bx g bt cs)) (ht:jl P t=some a) (hx:ev e x=.pointer (some ⟨g,o,none⟩))
    (hy:(ev e y).cells.toList=vs) (hm:vs.length=a.getD 1) (hl:Nat.ble (o+vs.length) cs.length=true) (h1:vs.all (·.oneCell')=true)
    (h:∀ w':World,St w0 F0 w' (L.set i (bx g bt (xH cs o vs)))→Fr w w' [g]→LW P n ops Q rest e w'):LW P n ops Q (⟨none,.store t x y,ty,pos,aft,none⟩::rest) e w:=by
  have hg:=St.cell (h:=hS) hi;have hl:=Nat.le_of_ble_eq_true hl;have hr:=run_storeCells_at P g o bt vs 0 cs.toArray w hg (by simpa using hl) (fun u hu=>List.all_eq_true.1 h1 u hu);simp only [Nat.add_zero] at hr;rw [← Av cs o vs (by omega)] at hr;refine LW.Bc (w':=w.setRow g (xH cs o vs).toArray) ?_ (h _ (hS.Mp hi) ⟨by simp,fun b _ hb=>setRow_other w g b _ (by simpa using hb)⟩);have:=pt (w:=w) ht
  have hy2:(ev e y).cells.size=a.getD 1:=by rw [← hm, ← hy,Array.length_toList]
  simp [execOp,Instr.storeAt,Instr.sureAddr,hx,storeVar,hy,hy2,this.2,hr]
theorem FL {t:TypeId} {k off:Nat} {a:Option Nat} (h:fo P t k=some (off,a)):∃ fs f i,P.underlying t=some (.struct fs)∧fs[k]?=some f∧f.offset=off∧P.info? f.type=some i∧i.size ≠ 0∧jl P f.type=some a:=by
  unfold fo at h;split at h
  · rename_i fs hu;split at h
    · rename_i f hf;split at h
      · cases h
      · rename_i hz
        cases ha:jl P f.type with
        | none=>rw [ha] at h;cases h
        | some a' =>
          rw [ha] at h;simp at h;obtain ⟨h1,h2⟩:=h;subst h1;subst h2
          cases hi:P.info? f.type with
          | none =>
            unfold jl at ha;rw [hi] at ha;split at ha<;>simp_all
          | some i=>exact ⟨fs,f,i,hu,hf,rfl,hi,fun h0=>hz (by simp [nF,hi,h0]),ha⟩
    · cases h
  · cases h
theorem iq.fa {t:TypeId} {x:Operand} {k off g o:Nat} {a:Option Nat} (hf:fo P t k=some (off,a)) (hx:ρ x=.pointer (some ⟨g,o,none⟩)):iq P ρ (.fieldAddr t x k) (.pointer (some ⟨g,o+off,none⟩)):=by
  intro d ty pos aft gd w;obtain ⟨fs,f,i,hu,hk,rfl,hi,hne,ha⟩:=FL hf;simp [execOp,Instr.fieldAt,run_underlying hu,hk,hx,Instr.sureAddr,fieldPlace,sizeOf,typeInfo,hi,hne,add_lit]
theorem iq.fd {t:TypeId} {x:Operand} {k off:Nat} {cs:Array Value} (hf:fo P t k=some (off,none)) (hx:ρ x=.agg cs) (hv:v8 cs.toList off=some v):iq P ρ (.field t x k) v:=by
  intro d ty pos aft gd w
  have hv:cs[off]?=some v:=by rw [yw] at hv;simpa using hv
  obtain ⟨fs,f,i,hu,hk,rfl,hi,hne,ha⟩:=FL hf;simp [execOp,Instr.field,run_underlying hu,hk,hx,asAgg,part,(pt (w:=w) ha).1,hv]
theorem iq.ix {t el:TypeId} {x y:Operand} {b o l c m:Nat} {k:IntKind} {i:Int} (ht:P.underlying t=some (.slice el)) (hm:nF P el=some m) (hx:ρ x=.slice (some ⟨b,o,none⟩) l c) (hy:ρ y=.int k i) (h0:0≤i) (h1:i<l) :
    iq P ρ (.indexAddr t x y) (.pointer (some ⟨b,o+i.toNat * m,none⟩)):=by
  intro d ty pos aft gd w
  cases hi:P.info? el with
  | none=>simp [nF,hi] at hm
  | some inf =>
    have hm':inf.size=m:=by simpa [nF,hi] using hm
    simp [execOp,Instr.indexAt,hx,hy,asIntOf,run_underlying ht,h0,h1,sizeOf,typeInfo,hi,hm',add_lit]
theorem iq.nc {x:Operand} {a:Addr} (hx:ρ x=.pointer (some a)):iq P ρ (.nilCheck x) (.pointer (some a)):=by
  intro d ty pos aft gd w;simp [execOp,hx]
theorem iq.build {t:TypeId} {parts:Array (Nat×Operand)} {vs:List (Nat×Value)} {cs:Array Value} (hp:parts.toList.map (fun p=>(p.1,ρ p.2))=vs) (hb:P.built t vs=some cs):iq P ρ (.build t parts) (.agg cs):=by
  intro d ty pos aft gd w
  have hp':(parts.map fun (i,x)=>(i,ρ x)).toList=vs:=by rw [← hp];simp
  subst hp';simp only [execOp,Sem.run_bind,run_build w t _ cs hb,Result.andThen_ok];rfl
end
end Go.Kx
