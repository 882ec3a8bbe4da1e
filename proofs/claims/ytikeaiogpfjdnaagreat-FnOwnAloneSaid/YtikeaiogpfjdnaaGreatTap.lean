/- A list's things, parted into what stands in the list and what hangs on it; and put together again. No program in sight. -/
import Derived.Test.YtikeaiogpfjdnaaGreatGo
import Derived.Test.YtikeaiogpfjdnaaGreatDat
import Derived.Test.YtikeaiogpfjdnaaGreatLaw
namespace Go.Kx
open Go Go.RowKit
set_option linter.unusedVariables false
set_option linter.unusedSimpArgs false
set_option linter.unusedSectionVars false
section
variable {w w0:World} {F0:List Nat} {L K:List Item}
theorem St.conv {α:Type} {M:α→List Item} {R:α→Prop} (hS:St w0 F0 w (K++L)) (h:∀ F,i9 K w F→∃ x F',R x∧F'.Perm F∧i9 (M x) w F'):∃ x,R x∧St w0 F0 w (M x++L):=by
  obtain ⟨F,hF,hn,hb⟩:=hS.own
  obtain ⟨F1,F2,rfl,h1,h2⟩:=i9.append.1 hF
  obtain ⟨x,F',hR,hp,hM⟩:=h F1 h1
  have hp2:(F'++F2).Perm (F1++F2):=hp.append_right F2
  exact ⟨x,hR,hS.os,hS.tape,hS.output,hS.size,hS.same,F'++F2,i9.append.2 ⟨F',F2,rfl,hM,h2⟩,hp2.nodup_iff.2 hn,fun b hm=>hb b (hp2.mem_iff.1 hm)⟩
end
def zm (p:gE) (h:Hd):qS:=qS.mk p.label p.own h p.heap p.ic p.next p.want p.dW p.iz p.lost
def Ez (v:qS) (t:List iy):gE:=gE.mk v.label v.own t v.heap v.ic v.next v.want v.dW v.iz v.lost
def uz:List Hd→List (List iy)→Prop
  | [],[]=>True
  | h::hs,t::ts=>h.n=t.length∧uz hs ts
  | _,_=>False
theorem uz.len:∀ {hs:List Hd} {ts:List (List iy)},uz hs ts→hs.length=ts.length
  | [],[],_=>rfl
  | _::_,_::_,h=>by simp [uz.len h.2]
  | [],_::_,h=>h.elim
  | _::_,[],h=>h.elim
section
variable {w:World}
theorem four {a b c d:List Nat}:((a++b)++(c++d)).Perm ((a++c)++(b++d)):=by
  simp only [List.append_assoc]
  refine List.Perm.append_left a ?_
  rw [← List.append_assoc, ← List.append_assoc]
  exact List.perm_append_comm.append_right d
variable {w0:World} {F0:List Nat} {L:List Item} {a:Option Addr} {c:Nat}
theorem uz.snoc:∀ {hs:List Hd} {ts:List (List iy)} {h:Hd} {t:List iy},uz hs ts→h.n=t.length→uz (hs++[h]) (ts++[t])
  | [],[],_,_,_,h=>⟨h,trivial⟩
  | [],_::_,_,_,k,_=>k.elim
  | _::_,[],_,_,k,_=>k.elim
  | _::_,_::_,_,_,k,h=>⟨k.1,uz.snoc k.2 h⟩
end
def Rl (l:List gE) (pv:List qS) (hs:List Hd) (ts:List (List iy)) (i:Int):Prop :=
  (∃ h0:List Hd,h0.length=l.length∧pv=List.zipWith zm l h0∧h0.take hs.length=hs)∧uz hs ts∧i=(hs.length:Int)
theorem Rl.ix {l:List gE} {pv:List qS} {hs:List Hd} {ts:List (List iy)} {i:Int} (h:Rl l pv hs ts i) (hc:decide (i<(l.length:Int))=true):∃ v,idx pv i=some v:=by
  obtain ⟨⟨h0,e0,rfl,_⟩,_,rfl⟩:=h
  have hk:=of_decide_eq_true hc
  have hlt:hs.length<l.length:=by omega
  exact ⟨zm (l[hs.length]'hlt) (h0[hs.length]'(by omega)),by rw [iT,List.getElem?_zipWith,List.getElem?_eq_getElem hlt,List.getElem?_eq_getElem (by omega)]⟩
theorem Rl.step {l:List gE} {pv:List qS} {hs:List Hd} {ts:List (List iy)} {i:Int} {v:qS} {t:List iy} {h:Hd} (r:Rl l pv hs ts i) (hc:decide (i<(l.length:Int))=true) (hB:l.length<im) (hx:idx pv i=some v) (hn:h.n=t.length) :
    Rl l (pv.set (i:Int).toNat (qS.mk v.label v.own h v.heap v.ic v.next v.want v.dW v.iz v.lost)) (hs++[h]) (ts++[t]) (IntKind.i64.wrap (i+1)):=by
  obtain ⟨⟨h0,e0,rfl,e1⟩,e2,rfl⟩:=r
  have hk:=of_decide_eq_true hc
  have hlt:hs.length<l.length:=by omega
  have hg:(List.zipWith zm l h0)[hs.length]?=some (zm (l[hs.length]'hlt) (h0[hs.length]'(by omega))):=by rw [List.getElem?_zipWith,List.getElem?_eq_getElem hlt,List.getElem?_eq_getElem (by omega)]
  rw [iT,hg] at hx
  cases Option.some.inj hx
  refine ⟨⟨h0.set hs.length h,by rw [List.length_set,e0],?_,?_⟩,e2.snoc hn,?_⟩
  · rw [Int.toNat_natCast]
    apply List.ext_getElem? fun k=>?_
    by_cases hkk:hs.length=k
    · subst hkk
      rw [List.getElem?_set_self (by rw [List.length_zipWith];omega),List.getElem?_zipWith,List.getElem?_set_self (by omega),List.getElem?_eq_getElem hlt]
      rfl
    · rw [List.getElem?_set_ne hkk,List.getElem?_zipWith,List.getElem?_zipWith,List.getElem?_set_ne hkk]
  · rw [List.length_append,List.length_cons,List.length_nil,Nat.zero_add,List.take_add_one,List.take_set_of_le (Nat.le_refl _),e1,List.getElem?_set,if_pos rfl,if_pos (by omega)]
    rfl
  · rw [jx (Nat.lt_trans hlt hB),List.length_append];rfl
theorem AT:∀ {l:List gE} {hs:List Hd},hs.length=l.length→(List.zipWith zm l hs).map (·.tree)=hs
  | [],[],_=>rfl
  | [],_::_,h=>by simp at h
  | _::_,[],h=>by simp at h
  | _::l,h::hs,k=>by
    show h::(List.zipWith zm l hs).map (·.tree)=h::hs
    rw [AT (by simpa using k)]
theorem B1:∀ {l:List gE} {hs:List Hd} {ts:List (List iy)},hs.length=l.length→uz hs ts→List.zipWith Ez (List.zipWith zm l hs) ts=xw l ts
  | [],[],[],_,_=>rfl
  | [],[],_::_,_,h=>h.elim
  | [],_::_,_,h,_=>by simp at h
  | _::_,[],_,h,_=>by simp at h
  | _::_,_::_,[],_,h=>h.elim
  | p::l,h::hs,t::ts,k,e=>by
    show yK p t::List.zipWith Ez (List.zipWith zm l hs) ts=yK p t::xw l ts
    rw [B1 (by simpa using k) e.2]
theorem Rl.fin {l:List gE} {pv:List qS} {hs:List Hd} {ts:List (List iy)} {i:Int} (r:Rl l pv hs ts i) (hc:decide (i<(l.length:Int))=false):pv.map (·.tree)=hs∧List.zipWith Ez pv ts=xw l ts∧ts.length=l.length:=by
  obtain ⟨⟨h0,e0,rfl,e1⟩,e2,rfl⟩:=r
  have hk:=of_decide_eq_false hc
  have hle:hs.length≤h0.length:=by rw [← e1,List.length_take];omega
  have hh:h0=hs:=by rw [← e1,List.take_of_length_le (by omega)]
  subst hh
  exact ⟨AT e0,B1 e0 e2,by rw [← e2.len,e0]⟩
end Go.Kx
