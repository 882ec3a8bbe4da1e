import Derived.Test.YtlcgibcdiikheaaGreatGo
import Derived.Test.YtlcgibcdiikheaaGreatDat
namespace Go.Kx
open Go Go.RowKit
set_option linter.unusedVariables false
set_option linter.unusedSimpArgs false
section
variable {P:Program} {n:Nat} {Q:jV} {e:Env} {w w0:World} {F0:List Nat} {A B:Prop} {α:Type}
theorem gc {y z:Option α} {r:α} {b:Bool} {c1 c2:Code} {x:Operand} (h:(bif b then y else z)=some r) (h1:b=true→y=some r→CW P n c1 Q e w) (h2:b=false→z=some r→CW P n c2 Q e w) (f:autoParam ((Unit→CW P n (.cond x c1 c2) Q e w)→B) go._auto_1) (hx:ev e x=.bool b:=by rfl):B:=f fun _=>ch h h1 h2 hx
theorem gB {y z:Option α} {r:α} {b:Bool} (h:(bif b then y else z)=some r) (h1:b=true→y=some r→A) (h2:b=false→z=some r→A) (f:autoParam ((Unit→A)→B) go._auto_1):B:=f fun _=>by
  cases b
  · exact h2 rfl h
  · exact h1 rfl h
theorem bH {y z:Option α} {r:α} {b:Bool} (h:(bif b then y else z)=some r) (h1:b=true→y=some r→A) (h2:b=false→z=some r→A):A:=by
  cases b
  · exact h2 rfl h
  · exact h1 rfl h
theorem AW.ux {ops:Array Oper} {fuel:Nat} {E:mE} {listed:Array Bool} {i d:Nat} {ty:TypeId} {pos:String} {aft:Array Edge} {g:Option (Nat×Bool)} {v:Value} {op:Op} (hn:listed[i]?=some false) (hi:ops[i]?=some ⟨some d,op,ty,pos,aft,g⟩) (hok:jv ops listed i=true) (hw:mz ops g e=true) (hd:Nat.ble (d+1) n=true)
    (hl:iI P (ev e) op v) (h:AW P n ops Q fuel E (listed.setIfInBounds i true) (jR e d v) w):AW P n ops Q (fuel+1) E listed e w:=AW.u hi hok hw hd hl h
theorem St.cA {L:List Item} {g:Nat} {ty:TypeId} {cs:List Value} (h:St w0 F0 w L) (hm:∃ i:Nat,L[i]?=some (bx g ty cs)):w.heap[g]?=some (.cells cs.toArray ty (0,0)):=by
  obtain ⟨i,hi⟩:=hm;exact St.cell (h:=h) hi
theorem jn {ops:Array Oper} {fuel:Nat} {E:mE} {listed:Array Bool} {j:Nat} {w':World} (h:AW P n ops Q fuel E (listed.setIfInBounds j true) e w') (k:Kept ops j E w w':=by repeat (first | exact jZ | (refine Kept.c (St.cA (by assumption) (by repeat (first | exact lT | apply lV))) ?_) | (refine jW ?_))) :
    LW P n ops (fun x e' w2=>x=.normal∧Kept ops j E w w2∧AW P n ops Q fuel E (listed.setIfInBounds j true) e' w2) [] e w':=jN k h
theorem eo {m:List (Nat×Value)} {A:Prop} (h:En e m∧A):∃ e',e=ij e' m∧A:=by
  obtain ⟨e',he⟩:=h.1.out;exact ⟨e',he,h.2⟩
theorem LW.bd {ops:Array Oper} {rest:List Oper} {d:Nat} {ty:TypeId} {pos:String} {aft:Array Edge} {t:TypeId} {parts:Array (Nat×Operand)} (vs:List (Nat×Value)) (cs:Array Value) (h:LW P n ops Q rest (jR e d (.agg cs)) w) (hp:parts.toList.map (fun p=>(p.1,ev e p.2))=vs:=by exact rfl) (hb:P.built t vs=some cs:=by kernel_rfl) (hd:Nat.ble (d+1) n=true:=by exact rfl) :
    LW P n ops Q (⟨some d,.build t parts,ty,pos,aft,none⟩::rest) e w:=LW.u (iI.build hp hb) hd h
theorem AW.tk {ops:Array Oper} {fuel:Nat} {E:mE} {listed:Array Bool} {d:Nat} {ty:TypeId} {pos:String} {aft:Array Edge} {g:Option (Nat×Bool)} {v:Value} {op:Op} {C:World→Prop} (i:Nat) (hi:ops[i]?=some ⟨some d,op,ty,pos,aft,g⟩) (hl:jb P (ev e) op C v) (hC:C w) (h:AW P n ops Q fuel ((i,C)::E) (listed.setIfInBounds i true) (jR e d v) w)
    (hok:jv ops listed i=true:=by kernel_rfl) (hw:mz ops g e=true:=by exact rfl) (hd:Nat.ble (d+1) n=true:=by exact rfl):AW P n ops Q (fuel+1) E listed e w:=AW.take hi hok hw hd hl hC h
theorem zW {w:World}:∀ l:List Int,jm w (l.map (Value.int .i64)) [] l
  | []=>rfl
  | x::l=>⟨[.int .i64 x],l.map (Value.int .i64),[],[],rfl,rfl,⟨rfl,rfl⟩,zW l⟩
theorem LW.bi {ops:Array Oper} {rest:List Oper} {d:Nat} {ty:TypeId} {pos:String} {aft:Array Edge} {L:List Item} {t:TypeId} {len:Nat} {parts:Array (Nat×Operand)} (l:List Int) (hS:St w0 F0 w L) (h:∀ (a:Option Addr) (c:Nat) (w':World),St w0 F0 w' (sl a c l::L)→Fr w w' []→LW P n ops Q rest (jR e d (.slice a l.length c)) w')
    (hp:parts.toList.map (fun p=>(p.1,ev e p.2))=l.zipIdx.map (fun p=>(p.2,Value.int .i64 p.1)):=by exact rfl) (hb:tD P t len (l.zipIdx.map fun p=>(p.2,Value.int .i64 p.1))=some (gT.ty Int,(l.map (Value.int .i64)).toArray):=by kernel_rfl) (hl:l.length=len:=by exact rfl) (hL:Nat.ble len 65536=true:=by exact rfl) (hd:Nat.ble (d+1) n=true:=by exact rfl) :
    LW P n ops Q (⟨some d,.buildSlice t len parts,ty,pos,aft,none⟩::rest) e w:=LW.uN hp hb hl (by subst hl;show (l.map (Value.int .i64)).toArray.size=l.length * 1;simp) hL (fun w=>zW l) hS hd h
theorem LW.b0 [gT α] {ops:Array Oper} {rest:List Oper} {d:Nat} {ty:TypeId} {pos:String} {aft:Array Edge} {L:List Item} {t:TypeId} {parts:Array (Nat×Operand)} (hS:St w0 F0 w L) (h:∀ (a:Option Addr) (c:Nat) (w':World),St w0 F0 w' (sl a c ([]:List α)::L)→Fr w w' []→LW P n ops Q rest (jR e d (.slice a ([]:List α).length c)) w')
    (hp:parts.toList.map (fun p=>(p.1,ev e p.2))=[]:=by exact rfl) (hb:tD P t 0 []=some (gT.ty α, #[]):=by kernel_rfl) (hd:Nat.ble (d+1) n=true:=by exact rfl) :
    LW P n ops Q (⟨some d,.buildSlice t 0 parts,ty,pos,aft,none⟩::rest) e w:=LW.uN (l:=([]:List α)) hp hb rfl (by simp) rfl (fun w=>rfl) hS hd h
-- fused
section
variable {ops:Array Oper} {rest:List Oper} {fuel:Nat} {E:mE} {listed:Array Bool} {d:Nat} {ty:TypeId} {pos:String} {aft:Array Edge} {v:Value} {l:List (Nat×Value)} {L:List Item} {j:Nat}
theorem rQ {E:Env} {t bt:TypeId} {x y:Operand} {a:Option Nat} {g o:Nat} {cs vs cs':List Value} {L':List Item} (hS:St w0 F0 w L) (i:Nat) (h:∀ w':World,St w0 F0 w' L'→LW P n ops Q rest (ij e l) w')
    (f:autoParam ((Unit→LW P n ops Q (⟨none,.store t x y,ty,pos,aft,none⟩::rest) E w)→B) go._auto_1) (hE:E=ij e l:=by repeat (first | (with_reducible exact rfl) | (with_reducible apply oY))) (hx:jF l x=some (.pointer (some ⟨g,o,none⟩)):=by rfl) (hi:L[i]?=some (bx g bt cs):=by rfl) (ht:iY P t=some a:=by exact j8.h) (hy:jF l y=some v:=by rfl) (hv:Nf v.cells.toList vs:=by repeat (first | ((with_reducible apply Nf.cons);rfl) | ((with_reducible apply Nf.nil);rfl))) (hm:vs.length=a.getD 1:=by rfl) (hl:Nat.ble (o+vs.length) cs.length=true:=by rfl) (h1:vs.all (·.oneCell')=true:=by rfl) (hc:Nf (sv cs o vs) cs':=by repeat (first | ((with_reducible apply Nf.cons);rfl) | ((with_reducible apply Nf.nil);rfl))) (hL:Nf (L.set i (bx g bt cs')) L':=by repeat (first | ((with_reducible apply Nf.cons);rfl) | ((with_reducible apply Nf.nil);rfl))):B:=f fun _=>LW.st hS i h hE hx hi ht hy hv hm hl h1 hc hL
theorem vk {E:Env} {t:TypeId} {x:Operand} {cs:List Value} (hS:St w0 F0 w L) (h:∀ (g:Nat) (w':World),St w0 F0 w' (bx g t cs::L)→LW P n ops Q rest (ij e ((d,.pointer (some ⟨g,0,none⟩))::l)) w')
    (f:autoParam ((Unit→LW P n ops Q (⟨some d,.box t x,ty,pos,aft,none⟩::rest) E w)→B) go._auto_1) (hE:E=ij e l:=by repeat (first | (with_reducible exact rfl) | (with_reducible apply oY))) (hx:jF l x=some v:=by rfl) (hv:Nf v.cells.toList cs:=by repeat (first | ((with_reducible apply Nf.cons);rfl) | ((with_reducible apply Nf.nil);rfl))) (hd:Nat.ble (d+1) n=true:=by rfl):B:=f fun _=>LW.bo hS h hE hx hv hd
theorem kI {E:Env} {m:List (Nat×Value)} {c:Code} (ds:List Nat) (k:∀ e',CW P n c Q (ij e' m) w)
    (f:autoParam ((Unit→CW P n c Q E w)→B) go._auto_1) (hE:E=ij e l:=by repeat (first | (with_reducible exact rfl) | (with_reducible apply oY))) (h:mc l ds m:=by repeat (first | exact mc.nil | (apply mc.cons;rfl))):B:=f fun _=>CW.fl ds k hE h
theorem xa {o:Oper} (i:Nat) (h:LW P n ops (fun x e' w'=>x=.normal∧Kept ops i E w w'∧AW P n ops Q fuel E (listed.setIfInBounds i true) e' w') [o] e w)
    (f:autoParam ((Unit→AW P n ops Q (fuel+1) E listed e w)→B) go._auto_1) (ho:ops[i]?=some o:=by rfl) (hr:Region.ready .any ops listed=[i]:=by kernel_rfl):B:=f fun _=>jO i h ho hr
theorem dW {id:Nat} {lo:List Oper} (h:AW P n lo.toArray Q lo.length [] (Array.replicate lo.length false) e w.drew) (hm:P.follows .mixedOrders=true:=by kernel_rfl):CW P n (.region id lo.toArray true) Q e w:=CW.draw hm h
theorem kG {id:Nat} {lo:List Oper} (h:AW P n lo.toArray Q lo.length [] (Array.replicate lo.length false) e w.drew) (f:autoParam ((Unit→CW P n (.region id lo.toArray true) Q e w)→B) go._auto_1) (hm:P.follows .mixedOrders=true:=by kernel_rfl):B:=f fun _=>CW.draw hm h
theorem jj {t:TypeId} {parts:Array (Nat×Operand)} (vs:List (Nat×Value)) (cs:Array Value) (h:LW P n ops Q rest (jR e d (.agg cs)) w) (f:autoParam ((Unit→LW P n ops Q (⟨some d,.build t parts,ty,pos,aft,none⟩::rest) e w)→B) go._auto_1) (hp:parts.toList.map (fun p=>(p.1,ev e p.2))=vs:=by exact rfl) (hb:P.built t vs=some cs:=by kernel_rfl) (hd:Nat.ble (d+1) n=true:=by exact rfl) :
    B:=f fun _=>LW.u (iI.build hp hb) hd h
end
-- end fused
theorem tt {t:Nat}:hP P e w (.tmp t) (e t):=rfl
theorem rx {t:Nat} {K:Value→Prop} (k:K (e t)):∃ v,jM P #[.tmp t] e w v∧K v:=⟨_,jM.one rfl,k⟩
theorem Ra {t:Nat} {K:Value→Prop} (k:K (e t)):True∧∃ v,jM P #[.tmp t] e w v∧K v:=⟨trivial,_,jM.one rfl,k⟩
theorem ry {r s:ResultVar} {u v:Value} {K:Value→Prop} (h:hP P e w r u) (k:hP P e w s v) (q:K (.tuple #[u,v])):∃ v,jM P #[r,s] e w v∧K v:=⟨_,jM.two h k,q⟩
theorem Rc {r s:ResultVar} {u v:Value} {K:Value→Prop} (h:hP P e w r u) (k:hP P e w s v) (q:K (.tuple #[u,v])):True∧∃ v,jM P #[r,s] e w v∧K v:=⟨trivial,_,jM.two h k,q⟩
end
section
variable {α:Type} [gT α] {w w0:World} {F0:List Nat}
theorem St.n5 {a:Option Addr} {c k:Nat} {l:List α} {cs:List Value} {Z X R:List Item} (h:St w0 F0 w Z) (y:α) (is:List Nat) (m i:Nat) (hp:kN Z is=some X) (hi:X[m+i]?=some (hole α a c l k cs)) (hM:∀ (w:World) (G:List Nat),iv (X.take m) w G→gT.own w cs G y)
    (hn:m3 is=true:=by exact rfl) (hR:Nf ((X.drop m).set i (sl a c (l.set k y))) R:=by repeat (first | ((with_reducible apply Nf.cons);rfl) | ((with_reducible apply Nf.nil);rfl))):St w0 F0 w R:=by
  cases hR.eq;have h2:=h.pick is hp hn;rw [← List.take_append_drop m X] at h2;exact h2.EA i (by rw [List.getElem?_drop];exact hi) hM
end
abbrev qP (a0:Ad) (c0:Nat) (a1:Ad) (c1:Nat) (a2:Ad) (c2:Nat) (a3:Ad) (c3:Nat) (a4:Ad) (c4:Nat) (a5:Ad) (c5:Nat) (x:bh):List Value:=[vS a0 x.HB.Hz.length c0,vS a1 x.own.length c1,vS a2 x.HC.length c2,vS a3 x.py.ag.length c3,vI x.py.gc.HD,vI x.py.gc.HL,vI x.py.gc.HF,vS a4 x.py.gc.gQ.length c4,vS a5 x.gR.length c5,vI x.HH,vI x.HJ,vI x.gP.gE,vI x.gP.gV,vI x.gP.hY,vI x.g8,vI x.HG]
abbrev qO (a0:Ad) (c0:Nat) (a1:Ad) (c1:Nat) (a2:Ad) (c2:Nat) (x:cd):List Value:=[vI x.HR,vI x.HA,vI x.box,vI x.HP,vI x.iK,vI x.gE,vI x.HK,vI x.iF,vI x.iE,.bool x.HM,vS a0 x.g5.length c0,vS a1 x.HI.length c1,vS a2 x.HE.length c2]
abbrev qL (x:il):List Value:=[vI x.HA,vI x.a,vI x.b,vI x.c,vI x.d,vI x.e]
abbrev qE (x:iq):List Value:=[vI x.HA,vI x.HS,vI x.jC,vI x.call.HA,vI x.call.a,vI x.call.b,vI x.call.c,vI x.call.d,vI x.call.e]
abbrev qH (a0:Ad) (c0:Nat) (a1:Ad) (c1:Nat) (x:g7):List Value:=[vS a0 x.ag.length c0,vI x.gc.HD,vI x.gc.HL,vI x.gc.HF,vS a1 x.gc.gQ.length c1]
abbrev qB (a0:Ad) (c0:Nat) (a1:Ad) (c1:Nat) (x:iu):List Value:=[vS a0 x.HB.Hz.length c0,vS a1 x.own.length c1,vI x.i7.gE,vI x.i7.gV,vI x.i7.hY]
abbrev qT (x:iS):List Value:=[vI x.HP,vI x.j6,vI x.oq,vI x.mg,vI x.HA,vI x.mV]
end Go.Kx
