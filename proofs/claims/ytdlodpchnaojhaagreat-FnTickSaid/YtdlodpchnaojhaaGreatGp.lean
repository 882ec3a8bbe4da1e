/- Short ways to say steps of a walk. No program in sight. -/
import Derived.Test.YtdlodpchnaojhaaGreatGo
import Derived.Test.YtdlodpchnaojhaaGreatDat
namespace Go.Kx
open Go Go.RowKit
set_option linter.unusedVariables false
set_option linter.unusedSimpArgs false
section
variable {P:Program} {n:Nat} {Q:lL} {e:Env} {w w0:World} {F0:List Nat} {A B:Prop} {α:Type}
theorem gc {y z:Option α} {r:α} {b:Bool} {c1 c2:Code} {x:Operand} (h:(bif b then y else z)=some r) (h1:b=true→y=some r→CW P n c1 Q e w) (h2:b=false→z=some r→CW P n c2 Q e w) (f:autoParam ((Unit→CW P n (.cond x c1 c2) Q e w)→B) go._auto_1) (hx:ev e x=.bool b:=by rfl):B:=f fun _=>ch h h1 h2 hx
theorem gB {y z:Option α} {r:α} {b:Bool} (h:(bif b then y else z)=some r) (h1:b=true→y=some r→A) (h2:b=false→z=some r→A) (f:autoParam ((Unit→A)→B) go._auto_1):B:=f fun _=>by
  cases b
  · exact h2 rfl h
  · exact h1 rfl h
theorem bH {y z:Option α} {r:α} {b:Bool} (h:(bif b then y else z)=some r) (h1:b=true→y=some r→A) (h2:b=false→z=some r→A):A:=by
  cases b
  · exact h2 rfl h
  · exact h1 rfl h
theorem AW.ux {ops:Array Oper} {fuel:Nat} {E:pX} {listed:Array Bool} {i d:Nat} {ty:TypeId} {pos:String} {aft:Array Edge} {g:Option (Nat×Bool)} {v:Value} {op:Op} (hn:listed[i]?=some false) (hi:ops[i]?=some ⟨some d,op,ty,pos,aft,g⟩) (hok:kY ops listed i=true) (hw:oV ops g e=true) (hd:Nat.ble (d+1) n=true)
    (hl:iD P (ev e) op v) (h:AW P n ops Q fuel E (listed.setIfInBounds i true) (k6 e d v) w):AW P n ops Q (fuel+1) E listed e w:=AW.u hi hok hw hd hl h
theorem St.cA {L:List Item} {g:Nat} {ty:TypeId} {cs:List Value} (h:St w0 F0 w L) (hm:∃ i:Nat,L[i]?=some (bx g ty cs)):w.heap[g]?=some (.cells cs.toArray ty (0,0)):=by
  obtain ⟨i,hi⟩:=hm
  exact St.cell (h:=h) hi
theorem jn {ops:Array Oper} {fuel:Nat} {E:pX} {listed:Array Bool} {j:Nat} {w':World} (h:AW P n ops Q fuel E (listed.setIfInBounds j true) e w') (k:Kept ops j E w w':=by repeat (first | exact jZ | (refine Kept.c (St.cA (by assumption) (by repeat (first | exact CO | apply CA))) ?_) | (refine jW ?_))) :
    LW P n ops (fun x e' w2=>x=.normal∧Kept ops j E w w2∧AW P n ops Q fuel E (listed.setIfInBounds j true) e' w2) [] e w':=jN k h
theorem eo {m:List (Nat×Value)} {A:Prop} (h:En e m∧A):∃ e',e=iQ e' m∧A:=by
  obtain ⟨e',he⟩:=h.1.out
  exact ⟨e',he,h.2⟩
theorem LW.bd {ops:Array Oper} {rest:List Oper} {d:Nat} {ty:TypeId} {pos:String} {aft:Array Edge} {t:TypeId} {parts:Array (Nat×Operand)} (vs:List (Nat×Value)) (cs:Array Value) (h:LW P n ops Q rest (k6 e d (.agg cs)) w) (hp:parts.toList.map (fun p=>(p.1,ev e p.2))=vs:=by exact rfl) (hb:P.built t vs=some cs:=by kernel_rfl) (hd:Nat.ble (d+1) n=true:=by exact rfl) :
    LW P n ops Q (⟨some d,.build t parts,ty,pos,aft,none⟩::rest) e w:=LW.u (iD.build hp hb) hd h
theorem DW {w:World}:∀ l:List Int,kj w (l.map (Value.int .i64)) [] l
  | []=>rfl
  | x::l=>⟨[.int .i64 x],l.map (Value.int .i64),[],[],rfl,rfl,⟨rfl,rfl⟩,DW l⟩
theorem LW.bi {ops:Array Oper} {rest:List Oper} {d:Nat} {ty:TypeId} {pos:String} {aft:Array Edge} {L:List Item} {t:TypeId} {len:Nat} {parts:Array (Nat×Operand)} (l:List Int) (hS:St w0 F0 w L) (h:∀ (a:Option Addr) (c:Nat) (w':World),St w0 F0 w' (sl a c l::L)→Fr w w' []→LW P n ops Q rest (k6 e d (.slice a l.length c)) w')
    (hp:parts.toList.map (fun p=>(p.1,ev e p.2))=l.zipIdx.map (fun p=>(p.2,Value.int .i64 p.1)):=by exact rfl) (hb:xi P t len (l.zipIdx.map fun p=>(p.2,Value.int .i64 p.1))=some (iB.ty Int,(l.map (Value.int .i64)).toArray):=by kernel_rfl) (hl:l.length=len:=by exact rfl) (hL:Nat.ble len 65536=true:=by exact rfl) (hd:Nat.ble (d+1) n=true:=by exact rfl) :
    LW P n ops Q (⟨some d,.buildSlice t len parts,ty,pos,aft,none⟩::rest) e w:=LW.jV hp hb hl (by subst hl;show (l.map (Value.int .i64)).toArray.size=l.length * 1;simp) hL (fun w=>DW l) hS hd h
theorem LW.b0 [iB α] {ops:Array Oper} {rest:List Oper} {d:Nat} {ty:TypeId} {pos:String} {aft:Array Edge} {L:List Item} {t:TypeId} {parts:Array (Nat×Operand)} (hS:St w0 F0 w L) (h:∀ (a:Option Addr) (c:Nat) (w':World),St w0 F0 w' (sl a c ([]:List α)::L)→Fr w w' []→LW P n ops Q rest (k6 e d (.slice a ([]:List α).length c)) w')
    (hp:parts.toList.map (fun p=>(p.1,ev e p.2))=[]:=by exact rfl) (hb:xi P t 0 []=some (iB.ty α, #[]):=by kernel_rfl) (hd:Nat.ble (d+1) n=true:=by exact rfl) :
    LW P n ops Q (⟨some d,.buildSlice t 0 parts,ty,pos,aft,none⟩::rest) e w:=LW.jV (l:=([]:List α)) hp hb rfl (by simp) rfl (fun w=>rfl) hS hd h
-- fused
section
variable {ops:Array Oper} {rest:List Oper} {fuel:Nat} {E:pX} {listed:Array Bool} {d:Nat} {ty:TypeId} {pos:String} {aft:Array Edge} {v:Value} {l:List (Nat×Value)} {L:List Item} {j:Nat}
end
-- end fused
theorem tt {t:Nat}:ic P e w (.tmp t) (e t):=rfl
theorem rx {t:Nat} {K:Value→Prop} (k:K (e t)):∃ v,jB P #[.tmp t] e w v∧K v:=⟨_,jB.one rfl,k⟩
theorem Ra {t:Nat} {K:Value→Prop} (k:K (e t)):True∧∃ v,jB P #[.tmp t] e w v∧K v:=⟨trivial,_,jB.one rfl,k⟩
theorem ry {r s:ResultVar} {u v:Value} {K:Value→Prop} (h:ic P e w r u) (k:ic P e w s v) (q:K (.tuple #[u,v])):∃ v,jB P #[r,s] e w v∧K v:=⟨_,jB.two h k,q⟩
theorem Rc {r s:ResultVar} {u v:Value} {K:Value→Prop} (h:ic P e w r u) (k:ic P e w s v) (q:K (.tuple #[u,v])):True∧∃ v,jB P #[r,s] e w v∧K v:=⟨trivial,_,jB.two h k,q⟩
end
section
variable {α:Type} [iB α] {w w0:World} {F0:List Nat}
theorem St.zX {a:Option Addr} {c k:Nat} {l:List α} {cs:List Value} {Z X R:List Item} (h:St w0 F0 w Z) (y:α) (is:List Nat) (m i:Nat) (hp:oZ Z is=some X) (hi:X[m+i]?=some (hole α a c l k cs)) (hM:∀ (w:World) (G:List Nat),jb (X.take m) w G→iB.own w cs G y)
    (hn:rR is=true:=by exact rfl) (hR:Nf ((X.drop m).set i (sl a c (l.set k y))) R:=by repeat (first | ((with_reducible apply Nf.cons);rfl) | ((with_reducible apply Nf.nil);rfl))):St w0 F0 w R:=by
  cases hR.eq
  have h2:=h.pick is hp hn
  rw [← List.take_append_drop m X] at h2
  exact h2.Jk i (by rw [List.getElem?_drop];exact hi) hM
end
abbrev qP (a0:Ad) (c0:Nat) (a1:Ad) (c1:Nat) (a2:Ad) (c2:Nat) (a3:Ad) (c3:Nat) (a4:Ad) (c4:Nat) (a5:Ad) (c5:Nat) (x:dW):List Value:=[vS a0 x.label.levels.length c0,vS a1 x.own.length c1,vS a2 x.tree.length c2,vS a3 x.heap.ag.length c3,vI x.heap.gc.phase,vI x.heap.gc.pos,vI x.heap.gc.round,vS a4 x.heap.gc.ia.length c4,vS a5 x.ij.length c5,vI x.next,vI x.want,vI x.gE.bh,vI x.gE.ib,vI x.gE.ik,vI x.iH,vI x.lost]
abbrev qO (a0:Ad) (c0:Nat) (a1:Ad) (c1:Nat) (a2:Ad) (c2:Nat) (x:cd):List Value:=[vI x.gen,vI x.kind,vI x.box,vI x.res,vI x.iU,vI x.bh,vI x.wait,vI x.iW,vI x.iR,.bool x.mark,vS a0 x.il.length c0,vS a1 x.data.length c1,vS a2 x.queue.length c2]
abbrev qL (x:jF):List Value:=[vI x.kind,vI x.a,vI x.b,vI x.c,vI x.d,vI x.e]
abbrev qH (a0:Ad) (c0:Nat) (a1:Ad) (c1:Nat) (x:iA):List Value:=[vS a0 x.ag.length c0,vI x.gc.phase,vI x.gc.pos,vI x.gc.round,vS a1 x.gc.ia.length c1]
abbrev qT (x:jw):List Value:=[vI x.res,vI x.jJ,vI x.mf,vI x.kp,vI x.kind,vI x.lk]
end Go.Kx
