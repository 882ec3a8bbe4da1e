/- Short ways to say steps of a walk. No program in sight. -/
import Derived.Test.YtikeaiogpfjdnaaGreatGo
import Derived.Test.YtikeaiogpfjdnaaGreatDat
namespace Go.Kx
open Go Go.RowKit
set_option linter.unusedVariables false
set_option linter.unusedSimpArgs false
section
variable {P:Program} {n:Nat} {Q:kF} {e:Env} {w w0:World} {F0:List Nat} {A B:Prop} {α:Type}
theorem gc {y z:Option α} {r:α} {b:Bool} {c1 c2:Code} {x:Operand} (h:(bif b then y else z)=some r) (h1:b=true→y=some r→CW P n c1 Q e w) (h2:b=false→z=some r→CW P n c2 Q e w) (f:autoParam ((Unit→CW P n (.cond x c1 c2) Q e w)→B) go._auto_1) (hx:ev e x=.bool b:=by rfl):B:=f fun _=>ch h h1 h2 hx
theorem gB {y z:Option α} {r:α} {b:Bool} (h:(bif b then y else z)=some r) (h1:b=true→y=some r→A) (h2:b=false→z=some r→A) (f:autoParam ((Unit→A)→B) go._auto_1):B:=f fun _=>by
  cases b
  · exact h2 rfl h
  · exact h1 rfl h
theorem bH {y z:Option α} {r:α} {b:Bool} (h:(bif b then y else z)=some r) (h1:b=true→y=some r→A) (h2:b=false→z=some r→A):A:=by
  cases b
  · exact h2 rfl h
  · exact h1 rfl h
theorem St.cA {L:List Item} {g:Nat} {ty:TypeId} {cs:List Value} (h:St w0 F0 w L) (hm:∃ i:Nat,L[i]?=some (bx g ty cs)):w.heap[g]?=some (.cells cs.toArray ty (0,0)):=by
  obtain ⟨i,hi⟩:=hm
  exact St.cell (h:=h) hi
theorem jn {ops:Array Oper} {fuel:Nat} {E:pV} {listed:Array Bool} {j:Nat} {w':World} (h:AW P n ops Q fuel E (listed.setIfInBounds j true) e w') (k:Kept ops j E w w':=by repeat (first | exact jZ | (refine Kept.c (St.cA (by assumption) (by repeat (first | exact yD | apply zj))) ?_) | (refine jW ?_))) :
    LW P n ops (fun x e' w2=>x=.normal∧Kept ops j E w w2∧AW P n ops Q fuel E (listed.setIfInBounds j true) e' w2) [] e w':=jN k h
theorem eo {m:List (Nat×Value)} {A:Prop} (h:En e m∧A):∃ e',e=iI e' m∧A:=by
  obtain ⟨e',he⟩:=h.1.out
  exact ⟨e',he,h.2⟩
theorem tt {t:Nat}:ig P e w (.tmp t) (e t):=rfl
theorem rx {t:Nat} {K:Value→Prop} (k:K (e t)):∃ v,jB P #[.tmp t] e w v∧K v:=⟨_,jB.one rfl,k⟩
theorem Ra {t:Nat} {K:Value→Prop} (k:K (e t)):True∧∃ v,jB P #[.tmp t] e w v∧K v:=⟨trivial,_,jB.one rfl,k⟩
theorem ry {r s:ResultVar} {u v:Value} {K:Value→Prop} (h:ig P e w r u) (k:ig P e w s v) (q:K (.tuple #[u,v])):∃ v,jB P #[r,s] e w v∧K v:=⟨_,jB.two h k,q⟩
theorem Rc {r s:ResultVar} {u v:Value} {K:Value→Prop} (h:ig P e w r u) (k:ig P e w s v) (q:K (.tuple #[u,v])):True∧∃ v,jB P #[r,s] e w v∧K v:=⟨trivial,_,jB.two h k,q⟩
end
section
variable {α:Type} [iB α] {w w0:World} {F0:List Nat}
theorem St.w8 {a:Option Addr} {c k:Nat} {l:List α} {cs:List Value} {Z X R:List Item} (h:St w0 F0 w Z) (y:α) (is:List Nat) (m i:Nat) (hp:ny Z is=some X) (hi:X[m+i]?=some (hole α a c l k cs)) (hM:∀ (w:World) (G:List Nat),iZ (X.take m) w G→iB.own w cs G y)
    (hn:o9 is=true:=by exact rfl) (hR:Nf ((X.drop m).set i (sl a c (l.set k y))) R:=by repeat (first | ((with_reducible apply Nf.cons);rfl) | ((with_reducible apply Nf.nil);rfl))):St w0 F0 w R:=by
  cases hR.eq
  have h2:=h.pick is hp hn
  rw [← List.take_append_drop m X] at h2
  exact h2.EI i (by rw [List.getElem?_drop];exact hi) hM
end
abbrev qP (a0:Ad) (c0:Nat) (a1:Ad) (c1:Nat) (a2:Ad) (c2:Nat) (a3:Ad) (c3:Nat) (a4:Ad) (c4:Nat) (a5:Ad) (c5:Nat) (x:ia):List Value:=[vS a0 x.label.levels.length c0,vS a1 x.own.length c1,vS a2 x.tree.length c2,vS a3 x.heap.ag.length c3,vI x.heap.gc.phase,vI x.heap.gc.pos,vI x.heap.gc.round,vS a4 x.heap.gc.gE.length c4,vS a5 x.iz.length c5,vI x.next,vI x.want,vI x.hZ.cd,vI x.hZ.im,vI x.hZ.iC,vI x.iH,vI x.lost]
abbrev qO (a0:Ad) (c0:Nat) (a1:Ad) (c1:Nat) (a2:Ad) (c2:Nat) (x:bh):List Value:=[vI x.gen,vI x.kind,vI x.box,vI x.res,vI x.iN,vI x.cd,vI x.wait,vI x.iO,vI x.iP,.bool x.mark,vS a0 x.ib.length c0,vS a1 x.data.length c1,vS a2 x.queue.length c2]
abbrev qL (x:jh):List Value:=[vI x.kind,vI x.a,vI x.b,vI x.c,vI x.d,vI x.e]
abbrev qH (a0:Ad) (c0:Nat) (a1:Ad) (c1:Nat) (x:ic):List Value:=[vS a0 x.ag.length c0,vI x.gc.phase,vI x.gc.pos,vI x.gc.round,vS a1 x.gc.gE.length c1]
abbrev qT (x:jE):List Value:=[vI x.res,vI x.k5,vI x.lR,vI x.lV,vI x.kind,vI x.mq]
end Go.Kx
