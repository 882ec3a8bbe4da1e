/- A list's things, parted into what stands in the list and what hangs on it; and put together again. No program in sight. -/
import Derived.Test.YtikeaiogpfjdnaaGreatGo
import Derived.Test.YtikeaiogpfjdnaaGreatDat
import Derived.Test.YtikeaiogpfjdnaaGreatLaw
namespace Go.Kx
open Go Go.RowKit
set_option linter.unusedVariables false
set_option linter.unusedSimpArgs false
set_option linter.unusedSectionVars false
section
variable {w w0:World} {F0:List Nat} {L K:List Item}
end
def Fm (p:cd) (h:Hd):xo:=xo.mk p.label p.own h p.heap p.pN p.next p.want p.dz p.pV p.lost
def KZ (v:xo) (t:List pW):cd:=cd.mk v.label v.own t v.heap v.pN v.next v.want v.dz v.pV v.lost
def BP:List Hd→List (List pW)→Prop
  | [],[]=>True
  | h::hs,t::ts=>h.n=t.length∧BP hs ts
  | _,_=>False
theorem BP.len:∀ {hs:List Hd} {ts:List (List pW)},BP hs ts→hs.length=ts.length
  | [],[],_=>rfl
  | _::_,_::_,h=>by simp [BP.len h.2]
  | [],_::_,h=>h.elim
  | _::_,[],h=>h.elim
section
variable {w:World}
variable {w0:World} {F0:List Nat} {L:List Item} {a:Option Addr} {c:Nat}
theorem BP.snoc:∀ {hs:List Hd} {ts:List (List pW)} {h:Hd} {t:List pW},BP hs ts→h.n=t.length→BP (hs++[h]) (ts++[t])
  | [],[],_,_,_,h=>⟨h,trivial⟩
  | [],_::_,_,_,k,_=>k.elim
  | _::_,[],_,_,k,_=>k.elim
  | _::_,_::_,_,_,k,h=>⟨k.1,BP.snoc k.2 h⟩
end
def Rl (l:List cd) (pv:List xo) (hs:List Hd) (ts:List (List pW)) (i:Int):Prop :=
  (∃ h0:List Hd,h0.length=l.length∧pv=List.zipWith Fm l h0∧h0.take hs.length=hs)∧BP hs ts∧i=(hs.length:Int)
theorem Rl.nn {l:List cd} {pv:List xo} {hs:List Hd} {ts:List (List pW)} {i:Int} (h:Rl l pv hs ts i):0≤i:=by rw [h.2.2];omega
theorem Rl.ix {l:List cd} {pv:List xo} {hs:List Hd} {ts:List (List pW)} {i:Int} (h:Rl l pv hs ts i) (hc:decide (i<(l.length:Int))=true):∃ v,idx pv i=some v:=by
  obtain ⟨⟨h0,e0,rfl,_⟩,_,rfl⟩:=h
  have hk:=of_decide_eq_true hc
  have hlt:hs.length<l.length:=by omega
  exact ⟨Fm (l[hs.length]'hlt) (h0[hs.length]'(by omega)),by rw [qx,List.getElem?_zipWith,List.getElem?_eq_getElem hlt,List.getElem?_eq_getElem (by omega)]⟩
theorem Rl.step {l:List cd} {pv:List xo} {hs:List Hd} {ts:List (List pW)} {i:Int} {v:xo} {t:List pW} {h:Hd} (r:Rl l pv hs ts i) (hc:decide (i<(l.length:Int))=true) (hB:l.length<pR) (hx:idx pv i=some v) (hn:h.n=t.length) :
    Rl l (pv.set (i:Int).toNat (xo.mk v.label v.own h v.heap v.pN v.next v.want v.dz v.pV v.lost)) (hs++[h]) (ts++[t]) (IntKind.i64.wrap (i+1)):=by
  obtain ⟨⟨h0,e0,rfl,e1⟩,e2,rfl⟩:=r
  have hk:=of_decide_eq_true hc
  have hlt:hs.length<l.length:=by omega
  have hg:(List.zipWith Fm l h0)[hs.length]?=some (Fm (l[hs.length]'hlt) (h0[hs.length]'(by omega))):=by rw [List.getElem?_zipWith,List.getElem?_eq_getElem hlt,List.getElem?_eq_getElem (by omega)]
  rw [qx,hg] at hx
  cases Option.some.inj hx
  refine ⟨⟨h0.set hs.length h,by rw [List.length_set,e0],?_,?_⟩,e2.snoc hn,?_⟩
  · rw [Int.toNat_natCast]
    apply List.ext_getElem? fun k=>?_
    by_cases hkk:hs.length=k
    · subst hkk
      rw [List.getElem?_set_self (by rw [List.length_zipWith];omega),List.getElem?_zipWith,List.getElem?_set_self (by omega),List.getElem?_eq_getElem hlt]
      rfl
    · rw [List.getElem?_set_ne hkk,List.getElem?_zipWith,List.getElem?_zipWith,List.getElem?_set_ne hkk]
  · rw [List.length_append,List.length_cons,List.length_nil,Nat.zero_add,List.take_add_one,List.take_set_of_le (Nat.le_refl _),e1,List.getElem?_set,if_pos rfl,if_pos (by omega)]
    rfl
  · rw [qV (Nat.lt_trans hlt hB),List.length_append];rfl
theorem Gj:∀ {l:List cd} {hs:List Hd},hs.length=l.length→(List.zipWith Fm l hs).map (·.tree)=hs
  | [],[],_=>rfl
  | [],_::_,h=>by simp at h
  | _::_,[],h=>by simp at h
  | _::l,h::hs,k=>by
    show h::(List.zipWith Fm l hs).map (·.tree)=h::hs
    rw [Gj (by simpa using k)]
theorem IG:∀ {l:List cd} {hs:List Hd} {ts:List (List pW)},hs.length=l.length→BP hs ts→List.zipWith KZ (List.zipWith Fm l hs) ts=DN l ts
  | [],[],[],_,_=>rfl
  | [],[],_::_,_,h=>h.elim
  | [],_::_,_,h,_=>by simp at h
  | _::_,[],_,h,_=>by simp at h
  | _::_,_::_,[],_,h=>h.elim
  | p::l,h::hs,t::ts,k,e=>by
    show Ex p t::List.zipWith KZ (List.zipWith Fm l hs) ts=Ex p t::DN l ts
    rw [IG (by simpa using k) e.2]
theorem Rl.fin {l:List cd} {pv:List xo} {hs:List Hd} {ts:List (List pW)} {i:Int} (r:Rl l pv hs ts i) (hc:decide (i<(l.length:Int))=false):pv.map (·.tree)=hs∧List.zipWith KZ pv ts=DN l ts∧ts.length=l.length:=by
  obtain ⟨⟨h0,e0,rfl,e1⟩,e2,rfl⟩:=r
  have hk:=of_decide_eq_false hc
  have hle:hs.length≤h0.length:=by rw [← e1,List.length_take];omega
  have hh:h0=hs:=by rw [← e1,List.take_of_length_le (by omega)]
  subst hh
  exact ⟨Gj e0,IG e0 e2,by rw [← e2.len,e0]⟩
end Go.Kx
