import Derived.Test.YtdlodpchnaojhaaGreatGo
import Derived.Test.YtdlodpchnaojhaaGreatDat
namespace Go.Kx
open Go Go.RowKit
set_option linter.unusedVariables false
set_option linter.unusedSimpArgs false
section
variable {P:Program} {n:Nat} {Q:kN} {e:Env} {w w0:World} {F0:List Nat} {A B:Prop} {α:Type}
theorem gc {y z:Option α} {r:α} {b:Bool} {c1 c2:Code} {x:Operand} (h:(bif b then y else z)=some r) (h1:b=true→y=some r→CW P n c1 Q e w) (h2:b=false→z=some r→CW P n c2 Q e w) (f:autoParam ((Unit→CW P n (.cond x c1 c2) Q e w)→B) go._auto_1) (hx:ev e x=.bool b:=by rfl):B:=f fun _=>ch h h1 h2 hx
theorem gB {y z:Option α} {r:α} {b:Bool} (h:(bif b then y else z)=some r) (h1:b=true→y=some r→A) (h2:b=false→z=some r→A) (f:autoParam ((Unit→A)→B) go._auto_1):B:=f fun _=>by
  cases b
  · exact h2 rfl h
  · exact h1 rfl h
theorem bH {y z:Option α} {r:α} {b:Bool} (h:(bif b then y else z)=some r) (h1:b=true→y=some r→A) (h2:b=false→z=some r→A):A:=by
  cases b
  · exact h2 rfl h
  · exact h1 rfl h
theorem AW.ux {ops:Array Oper} {fuel:Nat} {E:o4} {listed:Array Bool} {i d:Nat} {ty:TypeId} {pos:String} {aft:Array Edge} {g:Option (Nat×Bool)} {v:Value} {op:Op} (hn:listed[i]?=some false) (hi:ops[i]?=some ⟨some d,op,ty,pos,aft,g⟩) (hok:jV ops listed i=true) (hw:oJ ops g e=true) (hd:Nat.ble (d+1) n=true)
    (hl:iq P (ev e) op v) (h:AW P n ops Q fuel E (listed.setIfInBounds i true) (kC e d v) w):AW P n ops Q (fuel+1) E listed e w:=AW.u hi hok hw hd hl h
theorem St.cA {L:List Item} {g:Nat} {ty:TypeId} {cs:List Value} (h:St w0 F0 w L) (hm:∃ i:Nat,L[i]?=some (bx g ty cs)):w.heap[g]?=some (.cells cs.toArray ty (0,0)):=by
  obtain ⟨i,hi⟩:=hm;exact St.cell (h:=h) hi
theorem jn {ops:Array Oper} {fuel:Nat} {E:o4} {listed:Array Bool} {j:Nat} {w':World} (h:AW P n ops Q fuel E (listed.setIfInBounds j true) e w') (k:Kept ops j E w w':=by repeat (first | exact jZ | (refine Kept.c (St.cA (by assumption) (by repeat (first | exact nH | apply nI))) ?_) | (refine jW ?_))) :
    LW P n ops (fun x e' w2=>x=.normal∧Kept ops j E w w2∧AW P n ops Q fuel E (listed.setIfInBounds j true) e' w2) [] e w':=jN k h
theorem eo {m:List (Nat×Value)} {A:Prop} (h:En e m∧A):∃ e',e=im e' m∧A:=by
  obtain ⟨e',he⟩:=h.1.out;exact ⟨e',he,h.2⟩
theorem LW.bd {ops:Array Oper} {rest:List Oper} {d:Nat} {ty:TypeId} {pos:String} {aft:Array Edge} {t:TypeId} {parts:Array (Nat×Operand)} (vs:List (Nat×Value)) (cs:Array Value) (h:LW P n ops Q rest (kC e d (.agg cs)) w) (hp:parts.toList.map (fun p=>(p.1,ev e p.2))=vs:=by exact rfl) (hb:P.built t vs=some cs:=by kernel_rfl) (hd:Nat.ble (d+1) n=true:=by exact rfl) :
    LW P n ops Q (⟨some d,.build t parts,ty,pos,aft,none⟩::rest) e w:=LW.u (iq.build hp hb) hd h
theorem AW.tk {ops:Array Oper} {fuel:Nat} {E:o4} {listed:Array Bool} {d:Nat} {ty:TypeId} {pos:String} {aft:Array Edge} {g:Option (Nat×Bool)} {v:Value} {op:Op} {C:World→Prop} (i:Nat) (hi:ops[i]?=some ⟨some d,op,ty,pos,aft,g⟩) (hl:jf P (ev e) op C v) (hC:C w) (h:AW P n ops Q fuel ((i,C)::E) (listed.setIfInBounds i true) (kC e d v) w)
    (hok:jV ops listed i=true:=by kernel_rfl) (hw:oJ ops g e=true:=by exact rfl) (hd:Nat.ble (d+1) n=true:=by exact rfl):AW P n ops Q (fuel+1) E listed e w:=AW.take hi hok hw hd hl hC h
theorem FT {w:World}:∀ l:List Int,jC w (l.map (Value.int .i64)) [] l
  | []=>rfl
  | x::l=>⟨[.int .i64 x],l.map (Value.int .i64),[],[],rfl,rfl,⟨rfl,rfl⟩,FT l⟩
theorem LW.bi {ops:Array Oper} {rest:List Oper} {d:Nat} {ty:TypeId} {pos:String} {aft:Array Edge} {L:List Item} {t:TypeId} {len:Nat} {parts:Array (Nat×Operand)} (l:List Int) (hS:St w0 F0 w L) (h:∀ (a:Option Addr) (c:Nat) (w':World),St w0 F0 w' (sl a c l::L)→Fr w w' []→LW P n ops Q rest (kC e d (.slice a l.length c)) w')
    (hp:parts.toList.map (fun p=>(p.1,ev e p.2))=l.zipIdx.map (fun p=>(p.2,Value.int .i64 p.1)):=by exact rfl) (hb:zG P t len (l.zipIdx.map fun p=>(p.2,Value.int .i64 p.1))=some (hD.ty Int,(l.map (Value.int .i64)).toArray):=by kernel_rfl) (hl:l.length=len:=by exact rfl) (hL:Nat.ble len 65536=true:=by exact rfl) (hd:Nat.ble (d+1) n=true:=by exact rfl) :
    LW P n ops Q (⟨some d,.buildSlice t len parts,ty,pos,aft,none⟩::rest) e w:=LW.xI hp hb hl (by subst hl;show (l.map (Value.int .i64)).toArray.size=l.length * 1;simp) hL (fun w=>FT l) hS hd h
theorem LW.b0 [hD α] {ops:Array Oper} {rest:List Oper} {d:Nat} {ty:TypeId} {pos:String} {aft:Array Edge} {L:List Item} {t:TypeId} {parts:Array (Nat×Operand)} (hS:St w0 F0 w L) (h:∀ (a:Option Addr) (c:Nat) (w':World),St w0 F0 w' (sl a c ([]:List α)::L)→Fr w w' []→LW P n ops Q rest (kC e d (.slice a ([]:List α).length c)) w')
    (hp:parts.toList.map (fun p=>(p.1,ev e p.2))=[]:=by exact rfl) (hb:zG P t 0 []=some (hD.ty α, #[]):=by kernel_rfl) (hd:Nat.ble (d+1) n=true:=by exact rfl) :
    LW P n ops Q (⟨some d,.buildSlice t 0 parts,ty,pos,aft,none⟩::rest) e w:=LW.xI (l:=([]:List α)) hp hb rfl (by simp) rfl (fun w=>rfl) hS hd h
-- fused
section
variable {ops:Array Oper} {rest:List Oper} {fuel:Nat} {E:o4} {listed:Array Bool} {d:Nat} {ty:TypeId} {pos:String} {aft:Array Edge} {v:Value} {l:List (Nat×Value)} {L:List Item} {j:Nat}
theorem uz {E:Env} {t bt:TypeId} {x y:Operand} {a:Option Nat} {g o:Nat} {cs vs cs':List Value} {L':List Item} (hS:St w0 F0 w L) (i:Nat) (h:∀ w':World,St w0 F0 w' L'→LW P n ops Q rest (im e l) w')
    (f:autoParam ((Unit→LW P n ops Q (⟨none,.store t x y,ty,pos,aft,none⟩::rest) E w)→B) go._auto_1) (hE:E=im e l:=by repeat (first | (with_reducible exact rfl) | (with_reducible apply sn))) (hx:kj l x=some (.pointer (some ⟨g,o,none⟩)):=by rfl) (hi:L[i]?=some (bx g bt cs):=by rfl) (ht:jl P t=some a:=by exact kD.h) (hy:kj l y=some v:=by rfl) (hv:Nf v.cells.toList vs:=by repeat (first | ((with_reducible apply Nf.cons);rfl) | ((with_reducible apply Nf.nil);rfl))) (hm:vs.length=a.getD 1:=by rfl) (hl:Nat.ble (o+vs.length) cs.length=true:=by rfl) (h1:vs.all (·.oneCell')=true:=by rfl) (hc:Nf (xH cs o vs) cs':=by repeat (first | ((with_reducible apply Nf.cons);rfl) | ((with_reducible apply Nf.nil);rfl))) (hL:Nf (L.set i (bx g bt cs')) L':=by repeat (first | ((with_reducible apply Nf.cons);rfl) | ((with_reducible apply Nf.nil);rfl))):B:=f fun _=>LW.st hS i h hE hx hi ht hy hv hm hl h1 hc hL
theorem tK {E:Env} {t:TypeId} {x:Operand} {cs:List Value} (hS:St w0 F0 w L) (h:∀ (g:Nat) (w':World),St w0 F0 w' (bx g t cs::L)→LW P n ops Q rest (im e ((d,.pointer (some ⟨g,0,none⟩))::l)) w')
    (f:autoParam ((Unit→LW P n ops Q (⟨some d,.box t x,ty,pos,aft,none⟩::rest) E w)→B) go._auto_1) (hE:E=im e l:=by repeat (first | (with_reducible exact rfl) | (with_reducible apply sn))) (hx:kj l x=some v:=by rfl) (hv:Nf v.cells.toList cs:=by repeat (first | ((with_reducible apply Nf.cons);rfl) | ((with_reducible apply Nf.nil);rfl))) (hd:Nat.ble (d+1) n=true:=by rfl):B:=f fun _=>LW.bo hS h hE hx hv hd
theorem jE {E:Env} {m:List (Nat×Value)} {c:Code} (ds:List Nat) (k:∀ e',CW P n c Q (im e' m) w)
    (f:autoParam ((Unit→CW P n c Q E w)→B) go._auto_1) (hE:E=im e l:=by repeat (first | (with_reducible exact rfl) | (with_reducible apply sn))) (h:nZ l ds m:=by repeat (first | exact nZ.nil | (apply nZ.cons;rfl))):B:=f fun _=>CW.fl ds k hE h
theorem zr {o:Oper} (i:Nat) (h:LW P n ops (fun x e' w'=>x=.normal∧Kept ops i E w w'∧AW P n ops Q fuel E (listed.setIfInBounds i true) e' w') [o] e w)
    (f:autoParam ((Unit→AW P n ops Q (fuel+1) E listed e w)→B) go._auto_1) (ho:ops[i]?=some o:=by rfl) (hr:Region.ready .any ops listed=[i]:=by kernel_rfl):B:=f fun _=>jO i h ho hr
theorem dW {id:Nat} {lo:List Oper} (h:AW P n lo.toArray Q lo.length [] (Array.replicate lo.length false) e w.drew) (hm:P.follows .mixedOrders=true:=by kernel_rfl):CW P n (.region id lo.toArray true) Q e w:=CW.draw hm h
theorem jA {id:Nat} {lo:List Oper} (h:AW P n lo.toArray Q lo.length [] (Array.replicate lo.length false) e w.drew) (f:autoParam ((Unit→CW P n (.region id lo.toArray true) Q e w)→B) go._auto_1) (hm:P.follows .mixedOrders=true:=by kernel_rfl):B:=f fun _=>CW.draw hm h
theorem jj {t:TypeId} {parts:Array (Nat×Operand)} (vs:List (Nat×Value)) (cs:Array Value) (h:LW P n ops Q rest (kC e d (.agg cs)) w) (f:autoParam ((Unit→LW P n ops Q (⟨some d,.build t parts,ty,pos,aft,none⟩::rest) e w)→B) go._auto_1) (hp:parts.toList.map (fun p=>(p.1,ev e p.2))=vs:=by exact rfl) (hb:P.built t vs=some cs:=by kernel_rfl) (hd:Nat.ble (d+1) n=true:=by exact rfl) :
    B:=f fun _=>LW.u (iq.build hp hb) hd h
end
-- end fused
theorem tt {t:Nat}:ib P e w (.tmp t) (e t):=rfl
theorem Ra {t:Nat} {K:Value→Prop} (k:K (e t)):True∧∃ v,kt P #[.tmp t] e w v∧K v:=⟨trivial,_,kt.one rfl,k⟩
theorem ry {r s:ResultVar} {u v:Value} {K:Value→Prop} (h:ib P e w r u) (k:ib P e w s v) (q:K (.tuple #[u,v])):∃ v,kt P #[r,s] e w v∧K v:=⟨_,kt.two h k,q⟩
theorem Rc {r s:ResultVar} {u v:Value} {K:Value→Prop} (h:ib P e w r u) (k:ib P e w s v) (q:K (.tuple #[u,v])):True∧∃ v,kt P #[r,s] e w v∧K v:=⟨trivial,_,kt.two h k,q⟩
end
section
variable {α:Type} [hD α] {w w0:World} {F0:List Nat}
theorem St.nC {a:Option Addr} {c k:Nat} {l:List α} {cs:List Value} {Z X R:List Item} (h:St w0 F0 w Z) (y:α) (is:List Nat) (m i:Nat) (hp:lR Z is=some X) (hi:X[m+i]?=some (hole α a c l k cs)) (hM:∀ (w:World) (G:List Nat),iP (X.take m) w G→hD.own w cs G y)
    (hn:pU is=true:=by exact rfl) (hR:Nf ((X.drop m).set i (sl a c (l.set k y))) R:=by repeat (first | ((with_reducible apply Nf.cons);rfl) | ((with_reducible apply Nf.nil);rfl))):St w0 F0 w R:=by
  cases hR.eq;have h2:=h.pick is hp hn;rw [← List.take_append_drop m X] at h2;exact h2.KQ i (by rw [List.getElem?_drop];exact hi) hM
end
abbrev qP (a0:Ad) (c0:Nat) (a1:Ad) (c1:Nat) (a2:Ad) (c2:Nat) (a3:Ad) (c3:Nat) (a4:Ad) (c4:Nat) (a5:Ad) (c5:Nat) (x:cd):List Value:=[vS a0 x.NZ.NY.length c0,vS a1 x.own.length c1,vS a2 x.N1.length c2,vS a3 x.py.ag.length c3,vI x.py.gc.N2,vI x.py.gc.Oa,vI x.py.gc.N3,vS a4 x.py.gc.gQ.length c4,vS a5 x.gR.length c5,vI x.N6,vI x.N7,vI x.bh.gE,vI x.bh.gT,vI x.bh.g8,vI x.gW,vI x.N5]
abbrev qO (a0:Ad) (c0:Nat) (a1:Ad) (c1:Nat) (a2:Ad) (c2:Nat) (x:gP):List Value:=[vI x.Oe,vI x.N0,vI x.box,vI x.Od,vI x.iw,vI x.gE,vI x.N9,vI x.iv,vI x.iu,.bool x.Ob,vS a0 x.gX.length c0,vS a1 x.N8.length c1,vS a2 x.N4.length c2]
abbrev qC (a0:Ad) (c0:Nat) (a1:Ad) (c1:Nat) (a2:Ad) (c2:Nat) (a3:Ad) (c3:Nat) (a4:Ad) (c4:Nat) (a5:Ad) (c5:Nat) (x:ik):List Value:=[vS a0 x.NX.NZ.NY.length c0,vS a1 x.NX.own.length c1,vS a2 x.NX.N1.length c2,vS a3 x.NX.py.ag.length c3,vI x.NX.py.gc.N2,vI x.NX.py.gc.Oa,vI x.NX.py.gc.N3,vS a4 x.NX.py.gc.gQ.length c4,vS a5 x.NX.gR.length c5,vI x.NX.N6,vI x.NX.N7,vI x.NX.bh.gE,vI x.NX.bh.gT,vI x.NX.bh.g8,vI x.NX.gW,vI x.NX.N5,vI x.me,vI x.Oc,vI x.ig]
abbrev qL (x:ir):List Value:=[vI x.N0,vI x.a,vI x.b,vI x.c,vI x.d,vI x.e]
abbrev qE (x:iA):List Value:=[vI x.N0,vI x.NX,vI x.ig,vI x.call.N0,vI x.call.a,vI x.call.b,vI x.call.c,vI x.call.d,vI x.call.e]
abbrev qH (a0:Ad) (c0:Nat) (a1:Ad) (c1:Nat) (x:g5):List Value:=[vS a0 x.ag.length c0,vI x.gc.N2,vI x.gc.Oa,vI x.gc.N3,vS a1 x.gc.gQ.length c1]
abbrev qB (a0:Ad) (c0:Nat) (a1:Ad) (c1:Nat) (x:iC):List Value:=[vS a0 x.NZ.NY.length c0,vS a1 x.own.length c1,vI x.jU.gE,vI x.jU.gT,vI x.jU.g8]
abbrev qT (x:iL):List Value:=[vI x.Od,vI x.jI,vI x.mN,vI x.kc,vI x.N0,vI x.kK]
end Go.Kx
