/- Short ways to say steps of a walk. No program in sight. -/
import Derived.Test.YtikeaiogpfjdnaaGreatGo
import Derived.Test.YtikeaiogpfjdnaaGreatDat
namespace Go.Kx
open Go Go.RowKit
set_option linter.unusedVariables false
set_option linter.unusedSimpArgs false
section
variable {P:Program} {n:Nat} {Q:kP} {e:Env} {w w0:World} {F0:List Nat} {A B:Prop} {α:Type}
theorem gc {y z:Option α} {r:α} {b:Bool} {c1 c2:Code} {x:Operand} (h:(bif b then y else z)=some r) (h1:b=true→y=some r→CW P n c1 Q e w) (h2:b=false→z=some r→CW P n c2 Q e w) (f:autoParam ((Unit→CW P n (.cond x c1 c2) Q e w)→B) go._auto_1) (hx:ev e x=.bool b:=by rfl):B:=f fun _=>ch h h1 h2 hx
theorem gB {y z:Option α} {r:α} {b:Bool} (h:(bif b then y else z)=some r) (h1:b=true→y=some r→A) (h2:b=false→z=some r→A) (f:autoParam ((Unit→A)→B) go._auto_1):B:=f fun _=>by
  cases b
  · exact h2 rfl h
  · exact h1 rfl h
theorem bH {y z:Option α} {r:α} {b:Bool} (h:(bif b then y else z)=some r) (h1:b=true→y=some r→A) (h2:b=false→z=some r→A):A:=by
  cases b
  · exact h2 rfl h
  · exact h1 rfl h
theorem AW.ux {ops:Array Oper} {fuel:Nat} {E:pq} {listed:Array Bool} {i d:Nat} {ty:TypeId} {pos:String} {aft:Array Edge} {g:Option (Nat×Bool)} {v:Value} {op:Op} (hn:listed[i]?=some false) (hi:ops[i]?=some ⟨some d,op,ty,pos,aft,g⟩) (hok:kv ops listed i=true) (hw:oz ops g e=true) (hd:Nat.ble (d+1) n=true)
    (hl:iC P (ev e) op v) (h:AW P n ops Q fuel E (listed.setIfInBounds i true) (ky e d v) w):AW P n ops Q (fuel+1) E listed e w:=AW.u hi hok hw hd hl h
theorem St.cA {L:List Item} {g:Nat} {ty:TypeId} {cs:List Value} (h:St w0 F0 w L) (hm:∃ i:Nat,L[i]?=some (bx g ty cs)):w.heap[g]?=some (.cells cs.toArray ty (0,0)):=by
  obtain ⟨i,hi⟩:=hm
  exact St.cell (h:=h) hi
theorem jn {ops:Array Oper} {fuel:Nat} {E:pq} {listed:Array Bool} {j:Nat} {w':World} (h:AW P n ops Q fuel E (listed.setIfInBounds j true) e w') (k:Kept ops j E w w':=by repeat (first | exact jZ | (refine Kept.c (St.cA (by assumption) (by repeat (first | exact AL | apply At))) ?_) | (refine jW ?_))) :
    LW P n ops (fun x e' w2=>x=.normal∧Kept ops j E w w2∧AW P n ops Q fuel E (listed.setIfInBounds j true) e' w2) [] e w':=jN k h
theorem eo {m:List (Nat×Value)} {A:Prop} (h:En e m∧A):∃ e',e=iQ e' m∧A:=by
  obtain ⟨e',he⟩:=h.1.out
  exact ⟨e',he,h.2⟩
theorem LW.bd {ops:Array Oper} {rest:List Oper} {d:Nat} {ty:TypeId} {pos:String} {aft:Array Edge} {t:TypeId} {parts:Array (Nat×Operand)} (vs:List (Nat×Value)) (cs:Array Value) (h:LW P n ops Q rest (ky e d (.agg cs)) w) (hp:parts.toList.map (fun p=>(p.1,ev e p.2))=vs:=by exact rfl) (hb:P.built t vs=some cs:=by kernel_rfl) (hd:Nat.ble (d+1) n=true:=by exact rfl) :
    LW P n ops Q (⟨some d,.build t parts,ty,pos,aft,none⟩::rest) e w:=LW.u (iC.build hp hb) hd h
theorem Cw {w:World}:∀ l:List Int,j0 w (l.map (Value.int .i64)) [] l
  | []=>rfl
  | x::l=>⟨[.int .i64 x],l.map (Value.int .i64),[],[],rfl,rfl,⟨rfl,rfl⟩,Cw l⟩
theorem LW.bi {ops:Array Oper} {rest:List Oper} {d:Nat} {ty:TypeId} {pos:String} {aft:Array Edge} {L:List Item} {t:TypeId} {len:Nat} {parts:Array (Nat×Operand)} (l:List Int) (hS:St w0 F0 w L) (h:∀ (a:Option Addr) (c:Nat) (w':World),St w0 F0 w' (sl a c l::L)→Fr w w' []→LW P n ops Q rest (ky e d (.slice a l.length c)) w')
    (hp:parts.toList.map (fun p=>(p.1,ev e p.2))=l.zipIdx.map (fun p=>(p.2,Value.int .i64 p.1)):=by exact rfl) (hb:vy P t len (l.zipIdx.map fun p=>(p.2,Value.int .i64 p.1))=some (iw.ty Int,(l.map (Value.int .i64)).toArray):=by kernel_rfl) (hl:l.length=len:=by exact rfl) (hL:Nat.ble len 65536=true:=by exact rfl) (hd:Nat.ble (d+1) n=true:=by exact rfl) :
    LW P n ops Q (⟨some d,.buildSlice t len parts,ty,pos,aft,none⟩::rest) e w:=LW.jL hp hb hl (by subst hl;show (l.map (Value.int .i64)).toArray.size=l.length * 1;simp) hL (fun w=>Cw l) hS hd h
theorem LW.b0 [iw α] {ops:Array Oper} {rest:List Oper} {d:Nat} {ty:TypeId} {pos:String} {aft:Array Edge} {L:List Item} {t:TypeId} {parts:Array (Nat×Operand)} (hS:St w0 F0 w L) (h:∀ (a:Option Addr) (c:Nat) (w':World),St w0 F0 w' (sl a c ([]:List α)::L)→Fr w w' []→LW P n ops Q rest (ky e d (.slice a ([]:List α).length c)) w')
    (hp:parts.toList.map (fun p=>(p.1,ev e p.2))=[]:=by exact rfl) (hb:vy P t 0 []=some (iw.ty α, #[]):=by kernel_rfl) (hd:Nat.ble (d+1) n=true:=by exact rfl) :
    LW P n ops Q (⟨some d,.buildSlice t 0 parts,ty,pos,aft,none⟩::rest) e w:=LW.jL (l:=([]:List α)) hp hb rfl (by simp) rfl (fun w=>rfl) hS hd h
-- fused
section
variable {ops:Array Oper} {rest:List Oper} {fuel:Nat} {E:pq} {listed:Array Bool} {d:Nat} {ty:TypeId} {pos:String} {aft:Array Edge} {v:Value} {l:List (Nat×Value)} {L:List Item} {j:Nat}
end
-- end fused
theorem tt {t:Nat}:ib P e w (.tmp t) (e t):=rfl
theorem rx {t:Nat} {K:Value→Prop} (k:K (e t)):∃ v,jB P #[.tmp t] e w v∧K v:=⟨_,jB.one rfl,k⟩
theorem Ra {t:Nat} {K:Value→Prop} (k:K (e t)):True∧∃ v,jB P #[.tmp t] e w v∧K v:=⟨trivial,_,jB.one rfl,k⟩
theorem ry {r s:ResultVar} {u v:Value} {K:Value→Prop} (h:ib P e w r u) (k:ib P e w s v) (q:K (.tuple #[u,v])):∃ v,jB P #[r,s] e w v∧K v:=⟨_,jB.two h k,q⟩
theorem Rc {r s:ResultVar} {u v:Value} {K:Value→Prop} (h:ib P e w r u) (k:ib P e w s v) (q:K (.tuple #[u,v])):True∧∃ v,jB P #[r,s] e w v∧K v:=⟨trivial,_,jB.two h k,q⟩
end
section
variable {α:Type} [iw α] {w w0:World} {F0:List Nat}
theorem St.tl {a:Option Addr} {c k:Nat} {l:List α} {cs:List Value} {Z X R:List Item} (h:St w0 F0 w Z) (y:α) (is:List Nat) (m i:Nat) (hp:oA Z is=some X) (hi:X[m+i]?=some (hole α a c l k cs)) (hM:∀ (w:World) (G:List Nat),i9 (X.take m) w G→iw.own w cs G y)
    (hn:qB is=true:=by exact rfl) (hR:Nf ((X.drop m).set i (sl a c (l.set k y))) R:=by repeat (first | ((with_reducible apply Nf.cons);rfl) | ((with_reducible apply Nf.nil);rfl))):St w0 F0 w R:=by
  cases hR.eq
  have h2:=h.pick is hp hn
  rw [← List.take_append_drop m X] at h2
  exact h2.FW i (by rw [List.getElem?_drop];exact hi) hM
end
abbrev qP (a0:Ad) (c0:Nat) (a1:Ad) (c1:Nat) (a2:Ad) (c2:Nat) (a3:Ad) (c3:Nat) (a4:Ad) (c4:Nat) (a5:Ad) (c5:Nat) (x:gE):List Value:=[vS a0 x.label.levels.length c0,vS a1 x.own.length c1,vS a2 x.tree.length c2,vS a3 x.heap.ag.length c3,vI x.heap.gc.phase,vI x.heap.gc.pos,vI x.heap.gc.round,vS a4 x.heap.gc.ia.length c4,vS a5 x.ic.length c5,vI x.next,vI x.want,vI x.dW.cd,vI x.dW.ij,vI x.dW.iD,vI x.iz,vI x.lost]
abbrev qO (a0:Ad) (c0:Nat) (a1:Ad) (c1:Nat) (a2:Ad) (c2:Nat) (x:bh):List Value:=[vI x.gen,vI x.kind,vI x.box,vI x.res,vI x.iL,vI x.cd,vI x.wait,vI x.iK,vI x.iM,.bool x.mark,vS a0 x.ig.length c0,vS a1 x.data.length c1,vS a2 x.queue.length c2]
abbrev qC (a0:Ad) (c0:Nat) (a1:Ad) (c1:Nat) (a2:Ad) (c2:Nat) (a3:Ad) (c3:Nat) (a4:Ad) (c4:Nat) (a5:Ad) (c5:Nat) (x:iI):List Value:=[vS a0 x.part.label.levels.length c0,vS a1 x.part.own.length c1,vS a2 x.part.tree.length c2,vS a3 x.part.heap.ag.length c3,vI x.part.heap.gc.phase,vI x.part.heap.gc.pos,vI x.part.heap.gc.round,vS a4 x.part.heap.gc.ia.length c4,vS a5 x.part.ic.length c5,vI x.part.next,vI x.part.want,vI x.part.dW.cd,vI x.part.dW.ij,vI x.part.dW.iD,vI x.part.iz,vI x.part.lost,vI x.me,vI x.now,vI x.iV]
abbrev qL (x:iS):List Value:=[vI x.kind,vI x.a,vI x.b,vI x.c,vI x.d,vI x.e]
abbrev qH (a0:Ad) (c0:Nat) (a1:Ad) (c1:Nat) (x:iv):List Value:=[vS a0 x.ag.length c0,vI x.gc.phase,vI x.gc.pos,vI x.gc.round,vS a1 x.gc.ia.length c1]
abbrev qT (x:jy):List Value:=[vI x.res,vI x.lq,vI x.mD,vI x.mz,vI x.kind,vI x.mS]
end Go.Kx
