/- Short ways to say steps of a walk. No program in sight. -/
import Derived.Test.YtikeaiogpfjdnaaGreatGo
import Derived.Test.YtikeaiogpfjdnaaGreatDat
namespace Go.Kx
open Go Go.RowKit
set_option linter.unusedVariables false
set_option linter.unusedSimpArgs false
section
variable {P:Program} {n:Nat} {Q:k5} {e:Env} {w w0:World} {F0:List Nat} {A B:Prop} {α:Type}
theorem gc {y z:Option α} {r:α} {b:Bool} {c1 c2:Code} {x:Operand} (h:(bif b then y else z)=some r) (h1:b=true→y=some r→CW P n c1 Q e w) (h2:b=false→z=some r→CW P n c2 Q e w) (f:autoParam ((Unit→CW P n (.cond x c1 c2) Q e w)→B) go._auto_1) (hx:ev e x=.bool b:=by rfl):B:=f fun _=>ch h h1 h2 hx
theorem gB {y z:Option α} {r:α} {b:Bool} (h:(bif b then y else z)=some r) (h1:b=true→y=some r→A) (h2:b=false→z=some r→A) (f:autoParam ((Unit→A)→B) go._auto_1):B:=f fun _=>by
  cases b
  · exact h2 rfl h
  · exact h1 rfl h
theorem bH {y z:Option α} {r:α} {b:Bool} (h:(bif b then y else z)=some r) (h1:b=true→y=some r→A) (h2:b=false→z=some r→A):A:=by
  cases b
  · exact h2 rfl h
  · exact h1 rfl h
theorem AW.ux {ops:Array Oper} {fuel:Nat} {E:ra} {listed:Array Bool} {i d:Nat} {ty:TypeId} {pos:String} {aft:Array Edge} {g:Option (Nat×Bool)} {v:Value} {op:Op} (hn:listed[i]?=some false) (hi:ops[i]?=some ⟨some d,op,ty,pos,aft,g⟩) (hok:kK ops listed i=true) (hw:oR ops g e=true) (hd:Nat.ble (d+1) n=true)
    (hl:iA P (ev e) op v) (h:AW P n ops Q fuel E (listed.setIfInBounds i true) (kR e d v) w):AW P n ops Q (fuel+1) E listed e w:=AW.u hi hok hw hd hl h
theorem St.cA {L:List Item} {g:Nat} {ty:TypeId} {cs:List Value} (h:St w0 F0 w L) (hm:∃ i:Nat,L[i]?=some (bx g ty cs)):w.heap[g]?=some (.cells cs.toArray ty (0,0)):=by
  obtain ⟨i,hi⟩:=hm
  exact St.cell (h:=h) hi
theorem jn {ops:Array Oper} {fuel:Nat} {E:ra} {listed:Array Bool} {j:Nat} {w':World} (h:AW P n ops Q fuel E (listed.setIfInBounds j true) e w') (k:Kept ops j E w w':=by repeat (first | exact jZ | (refine Kept.c (St.cA (by assumption) (by repeat (first | exact BK | apply B1))) ?_) | (refine jW ?_))) :
    LW P n ops (fun x e' w2=>x=.normal∧Kept ops j E w w2∧AW P n ops Q fuel E (listed.setIfInBounds j true) e' w2) [] e w':=jN k h
theorem eo {m:List (Nat×Value)} {A:Prop} (h:En e m∧A):∃ e',e=iT e' m∧A:=by
  obtain ⟨e',he⟩:=h.1.out
  exact ⟨e',he,h.2⟩
theorem tt {t:Nat}:ib P e w (.tmp t) (e t):=rfl
theorem rx {t:Nat} {K:Value→Prop} (k:K (e t)):∃ v,jG P #[.tmp t] e w v∧K v:=⟨_,jG.one rfl,k⟩
theorem Ra {t:Nat} {K:Value→Prop} (k:K (e t)):True∧∃ v,jG P #[.tmp t] e w v∧K v:=⟨trivial,_,jG.one rfl,k⟩
theorem ry {r s:ResultVar} {u v:Value} {K:Value→Prop} (h:ib P e w r u) (k:ib P e w s v) (q:K (.tuple #[u,v])):∃ v,jG P #[r,s] e w v∧K v:=⟨_,jG.two h k,q⟩
theorem Rc {r s:ResultVar} {u v:Value} {K:Value→Prop} (h:ib P e w r u) (k:ib P e w s v) (q:K (.tuple #[u,v])):True∧∃ v,jG P #[r,s] e w v∧K v:=⟨trivial,_,jG.two h k,q⟩
end
section
variable {α:Type} [iy α] {w w0:World} {F0:List Nat}
theorem St.np {a:Option Addr} {c k:Nat} {l:List α} {cs:List Value} {Z X R:List Item} (h:St w0 F0 w Z) (y:α) (is:List Nat) (m i:Nat) (hp:oS Z is=some X) (hi:X[m+i]?=some (hole α a c l k cs)) (hM:∀ (w:World) (G:List Nat),jh (X.take m) w G→iy.own w cs G y)
    (hn:rQ is=true:=by exact rfl) (hR:Nf ((X.drop m).set i (sl a c (l.set k y))) R:=by repeat (first | ((with_reducible apply Nf.cons);rfl) | ((with_reducible apply Nf.nil);rfl))):St w0 F0 w R:=by
  cases hR.eq
  have h2:=h.pick is hp hn
  rw [← List.take_append_drop m X] at h2
  exact h2.GR i (by rw [List.getElem?_drop];exact hi) hM
end
abbrev qP (a0:Ad) (c0:Nat) (a1:Ad) (c1:Nat) (a2:Ad) (c2:Nat) (a3:Ad) (c3:Nat) (a4:Ad) (c4:Nat) (a5:Ad) (c5:Nat) (x:hZ):List Value:=[vS a0 x.label.levels.length c0,vS a1 x.own.length c1,vS a2 x.tree.length c2,vS a3 x.heap.ag.length c3,vI x.heap.gc.phase,vI x.heap.gc.pos,vI x.heap.gc.round,vS a4 x.heap.gc.ia.length c4,vS a5 x.ic.length c5,vI x.next,vI x.want,vI x.gE.bh,vI x.gE.ig,vI x.gE.iB,vI x.ik,vI x.lost]
abbrev qO (a0:Ad) (c0:Nat) (a1:Ad) (c1:Nat) (a2:Ad) (c2:Nat) (x:cd):List Value:=[vI x.gen,vI x.kind,vI x.box,vI x.res,vI x.iP,vI x.bh,vI x.wait,vI x.iN,vI x.iO,.bool x.mark,vS a0 x.ij.length c0,vS a1 x.data.length c1,vS a2 x.queue.length c2]
abbrev qC (a0:Ad) (c0:Nat) (a1:Ad) (c1:Nat) (a2:Ad) (c2:Nat) (a3:Ad) (c3:Nat) (a4:Ad) (c4:Nat) (a5:Ad) (c5:Nat) (x:iK):List Value:=[vS a0 x.part.label.levels.length c0,vS a1 x.part.own.length c1,vS a2 x.part.tree.length c2,vS a3 x.part.heap.ag.length c3,vI x.part.heap.gc.phase,vI x.part.heap.gc.pos,vI x.part.heap.gc.round,vS a4 x.part.heap.gc.ia.length c4,vS a5 x.part.ic.length c5,vI x.part.next,vI x.part.want,vI x.part.gE.bh,vI x.part.gE.ig,vI x.part.gE.iB,vI x.part.ik,vI x.part.lost,vI x.me,vI x.now,vI x.iY]
abbrev qL (x:iL):List Value:=[vI x.kind,vI x.a,vI x.b,vI x.c,vI x.d,vI x.e]
abbrev qH (a0:Ad) (c0:Nat) (a1:Ad) (c1:Nat) (x:ir):List Value:=[vS a0 x.ag.length c0,vI x.gc.phase,vI x.gc.pos,vI x.gc.round,vS a1 x.gc.ia.length c1]
abbrev qT (x:je):List Value:=[vI x.res,vI x.my,vI x.nO,vI x.nF,vI x.kind,vI x.nW]
end Go.Kx
