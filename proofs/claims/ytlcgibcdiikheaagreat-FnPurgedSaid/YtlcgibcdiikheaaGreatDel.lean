import Derived.Test.YtlcgibcdiikheaaGreatGo
import Derived.Test.YtlcgibcdiikheaaGreatDat
namespace Go.Kx
open Go Go.RowKit
set_option linter.unusedVariables false
set_option linter.unusedSimpArgs false
section
variable {α:Type} [gT α] {P:Program} {n:Nat} {Q:jV} {e:Env} {w w0:World} {F0:List Nat} {L:List Item} {ops:Array Oper} {rest:List Oper} {ty:TypeId} {pos:String} {aft:Array Edge} {d:Nat}
end
section
variable {α:Type} [gT α] {P:Program} {n:Nat} {Q:jV} {e:Env} {w w0:World} {F0:List Nat} {L:List Item} {ops:Array Oper} {rest:List Oper} {ty:TypeId} {pos:String} {aft:Array Edge} {d:Nat}
theorem iy.stay {S:Nat→Prop} {w w':World} {a:Option Addr} {c:Nat} {l:List Int} (h:iy S w a c l) (hS:∀ b,S b→b<w.heap.size) {g:Nat} {t:TypeId} {u:Option Addr} {i j:Nat} (hg:w.heap[g]?=some (.cells [Value.slice u i j].toArray t (0,0))) (hf:Fr w w' [g]):iy S w' a c l:=by
  refine ⟨h.le,h.cap,fun hne=>?_⟩;obtain ⟨b,o,ha,hb,hc⟩:=h.cells hne
  have ne:b ≠ g:=fun q=>by
    subst q
    cases l with
    | nil=>exact hne rfl
    | cons x l =>
      obtain ⟨cs,h1,h2⟩:=hc 0 x rfl;have h1:cs=[.int .i64 x]:=h1;subst h1;have:=h2 0 _ rfl;unfold World.cell? at this;rw [hg] at this;revert this;generalize o+0 * gT.sz Int+0=z;intro this
      rcases z with _ | z<;>simp at this
  refine ⟨b,o,ha,hb,fun k x hx=>?_⟩;obtain ⟨cs,h1,h2⟩:=hc k x hx;exact ⟨cs,h1,fun j u hu=>(World.cell?_of_block (w:=w) (hf.same b (hS b hb) (by simpa using ne))).trans (h2 j u hu)⟩
theorem LW.Hh {t bt:TypeId} {x y:Operand} {a:Option Nat} {g o:Nat} {vs:List Value} {u:Option Addr} {i1 i2 c:Nat} {b:Option Addr} {m:List Int} (hS:St w0 F0 w L) (i:Nat) (hr:iy (ja w []) w b c m) (hi:L[i]?=some (bx g bt [.slice u i1 i2])) (ht:iY P t=some a) (hx:ev e x=.pointer (some ⟨g,o,none⟩))
    (hy:(ev e y).cells.toList=vs) (hm:vs.length=a.getD 1) (hl:Nat.ble (o+vs.length) 1=true) (h1:vs.all (·.oneCell')=true)
    (h:∀ w':World,St w0 F0 w' (L.set i (bx g bt (sv [.slice u i1 i2] o vs)))→iy (ja w' []) w' b c m→LW P n ops Q rest e w'):LW P n ops Q (⟨none,.store t x y,ty,pos,aft,none⟩::rest) e w :=
  LW.Fp hS i hi ht hx hy hm hl h1 fun w' hS' hf=>h w' hS' ((hr.stay (fun _ q=>q.1) (St.cell (h:=hS) hi) hf).mono fun _ q=>⟨Nat.lt_of_lt_of_le q.1 hf.size,by simp⟩)
end
section
variable {α:Type} [gT α] {P:Program} {n:Nat} {Q:jV} {e:Env} {w w0:World} {F0:List Nat} {L:List Item} {ops:Array Oper} {rest:List Oper} {ty:TypeId} {pos:String} {aft:Array Edge} {d:Nat}
def Raw (α:Type) [gT α]:Type:={v:List Value // v.length=gT.sz α∧∀ u,u ∈ v→u.oneCell'=true}
instance:gT (Raw α) where
  ty:=gT.ty α
  sz:=gT.sz α
  zero:=⟨gT.zc α,gT.iJ (gT.iV (α:=α) default),gT.jt (gT.iV (α:=α) default)⟩
  zc:=gT.zc α
  pos:=gT.pos
  rd _ _ cs x:=cs=x.1
  own _ cs F x:=cs=x.1∧F=[]
  j5:=by intro _ _ _ x h;rw [h];exact x.2.1
  iJ:=by intro _ _ _ x h;rw [h.1];exact x.2.1
  jE h _:=h
  jI h _:=h
  jd h _:=h
  j4 h _:=h.1
  jt:=by intro _ _ _ x h;rw [h.1];exact x.2.2
  iV _:=⟨rfl,rfl⟩
end
end Go.Kx
