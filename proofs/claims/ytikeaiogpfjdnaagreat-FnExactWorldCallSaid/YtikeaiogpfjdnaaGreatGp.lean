/- Short ways to say steps of a walk. No program in sight. -/
import Derived.Test.YtikeaiogpfjdnaaGreatGo
import Derived.Test.YtikeaiogpfjdnaaGreatDat
namespace Go.Kx
open Go Go.RowKit
set_option linter.unusedVariables false
set_option linter.unusedSimpArgs false
section
variable {P:Program} {n:Nat} {Q:sN} {e:Env} {w w0:World} {F0:List Nat} {A B:Prop} {α:Type}
theorem gc {y z:Option α} {r:α} {b:Bool} {c1 c2:Code} {x:Operand} (h:(bif b then y else z)=some r) (h1:b=true→y=some r→CW P n c1 Q e w) (h2:b=false→z=some r→CW P n c2 Q e w) (f:autoParam ((Unit→CW P n (.cond x c1 c2) Q e w)→B) go._auto_1) (hx:ev e x=.bool b:=by rfl):B:=f fun _=>ch h h1 h2 hx
theorem gB {y z:Option α} {r:α} {b:Bool} (h:(bif b then y else z)=some r) (h1:b=true→y=some r→A) (h2:b=false→z=some r→A) (f:autoParam ((Unit→A)→B) go._auto_1):B:=f fun _=>by
  cases b
  · exact h2 rfl h
  · exact h1 rfl h
theorem bH {y z:Option α} {r:α} {b:Bool} (h:(bif b then y else z)=some r) (h1:b=true→y=some r→A) (h2:b=false→z=some r→A):A:=by
  cases b
  · exact h2 rfl h
  · exact h1 rfl h
theorem AW.ux {ops:Array Oper} {fuel:Nat} {E:yA} {listed:Array Bool} {i d:Nat} {ty:TypeId} {pos:String} {aft:Array Edge} {g:Option (Nat×Bool)} {v:Value} {op:Op} (hn:listed[i]?=some false) (hi:ops[i]?=some ⟨some d,op,ty,pos,aft,g⟩) (hok:sk ops listed i=true) (hw:wc ops g e=true) (hd:Nat.ble (d+1) n=true)
    (hl:pY P (ev e) op v) (h:AW P n ops Q fuel E (listed.setIfInBounds i true) (sM e d v) w):AW P n ops Q (fuel+1) E listed e w:=AW.u hi hok hw hd hl h
theorem tt {t:Nat}:pP P e w (.tmp t) (e t):=rfl
theorem rx {t:Nat} {K:Value→Prop} (k:K (e t)):∃ v,rG P #[.tmp t] e w v∧K v:=⟨_,rG.one rfl,k⟩
theorem Ra {t:Nat} {K:Value→Prop} (k:K (e t)):True∧∃ v,rG P #[.tmp t] e w v∧K v:=⟨trivial,_,rG.one rfl,k⟩
theorem ry {r s:ResultVar} {u v:Value} {K:Value→Prop} (h:pP P e w r u) (k:pP P e w s v) (q:K (.tuple #[u,v])):∃ v,rG P #[r,s] e w v∧K v:=⟨_,rG.two h k,q⟩
theorem Rc {r s:ResultVar} {u v:Value} {K:Value→Prop} (h:pP P e w r u) (k:pP P e w s v) (q:K (.tuple #[u,v])):True∧∃ v,rG P #[r,s] e w v∧K v:=⟨trivial,_,rG.two h k,q⟩
end
section
variable {α:Type} [pX α] {w w0:World} {F0:List Nat}
theorem St.uV {a:Option Addr} {c k:Nat} {l:List α} {cs:List Value} {Z X R:List Item} (h:St w0 F0 w Z) (y:α) (is:List Nat) (m i:Nat) (hp:vX Z is=some X) (hi:X[m+i]?=some (hole α a c l k cs)) (hM:∀ (w:World) (G:List Nat),qT (X.take m) w G→pX.own w cs G y)
    (hn:yo is=true:=by exact rfl) (hR:Nf ((X.drop m).set i (sl a c (l.set k y))) R:=by repeat (first | ((with_reducible apply Nf.cons);rfl) | ((with_reducible apply Nf.nil);rfl))):St w0 F0 w R:=by
  cases hR.eq
  have h2:=h.pick is hp hn
  rw [← List.take_append_drop m X] at h2
  exact h2.MC i (by rw [List.getElem?_drop];exact hi) hM
end
abbrev qP (a0:Ad) (c0:Nat) (a1:Ad) (c1:Nat) (a2:Ad) (c2:Nat) (a3:Ad) (c3:Nat) (a4:Ad) (c4:Nat) (a5:Ad) (c5:Nat) (x:cd):List Value:=[vS a0 x.label.levels.length c0,vS a1 x.own.length c1,vS a2 x.tree.length c2,vS a3 x.heap.ag.length c3,vI x.heap.gc.phase,vI x.heap.gc.pos,vI x.heap.gc.round,vS a4 x.heap.gc.j8.length c4,vS a5 x.pN.length c5,vI x.next,vI x.want,vI x.dz.bh,vI x.dz.pU,vI x.dz.qc,vI x.pV,vI x.lost]
abbrev qO (a0:Ad) (c0:Nat) (a1:Ad) (c1:Nat) (a2:Ad) (c2:Nat) (x:eg):List Value:=[vI x.gen,vI x.kind,vI x.box,vI x.res,vI x.qp,vI x.bh,vI x.wait,vI x.qo,vI x.qq,.bool x.mark,vS a0 x.pS.length c0,vS a1 x.data.length c1,vS a2 x.queue.length c2]
abbrev qC (a0:Ad) (c0:Nat) (a1:Ad) (c1:Nat) (a2:Ad) (c2:Nat) (a3:Ad) (c3:Nat) (a4:Ad) (c4:Nat) (a5:Ad) (c5:Nat) (x:qj):List Value:=[vS a0 x.part.label.levels.length c0,vS a1 x.part.own.length c1,vS a2 x.part.tree.length c2,vS a3 x.part.heap.ag.length c3,vI x.part.heap.gc.phase,vI x.part.heap.gc.pos,vI x.part.heap.gc.round,vS a4 x.part.heap.gc.j8.length c4,vS a5 x.part.pN.length c5,vI x.part.next,vI x.part.want,vI x.part.dz.bh,vI x.part.dz.pU,vI x.part.dz.qc,vI x.part.pV,vI x.part.lost,vI x.me,vI x.now,vI x.qB]
abbrev qL (x:qn):List Value:=[vI x.kind,vI x.a,vI x.b,vI x.c,vI x.d,vI x.e]
abbrev qH (a0:Ad) (c0:Nat) (a1:Ad) (c1:Nat) (x:qe):List Value:=[vS a0 x.ag.length c0,vI x.gc.phase,vI x.gc.pos,vI x.gc.round,vS a1 x.gc.j8.length c1]
end Go.Kx
