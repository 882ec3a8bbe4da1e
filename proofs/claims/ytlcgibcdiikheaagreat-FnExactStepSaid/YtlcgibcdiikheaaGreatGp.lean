import Derived.Test.YtlcgibcdiikheaaGreatGo
namespace Go.Kx
open Go Go.RowKit
set_option linter.unusedVariables false
set_option linter.unusedSimpArgs false
section
variable {P:Program} {n:Nat} {Q:tr} {e:Env} {w w0:World} {F0:List Nat} {A B:Prop} {α:Type}
theorem gc {y z:Option α} {r:α} {b:Bool} {c1 c2:Code} {x:Operand} (h:(bif b then y else z)=some r) (h1:b=true→y=some r→CW P n c1 Q e w) (h2:b=false→z=some r→CW P n c2 Q e w) (f:autoParam ((Unit→CW P n (.cond x c1 c2) Q e w)→B) go._auto_1) (hx:ev e x=.bool b:=by rfl):B:=f fun _=>ch h h1 h2 hx
theorem gB {y z:Option α} {r:α} {b:Bool} (h:(bif b then y else z)=some r) (h1:b=true→y=some r→A) (h2:b=false→z=some r→A) (f:autoParam ((Unit→A)→B) go._auto_1):B:=f fun _=>by
  cases b
  · exact h2 rfl h
  · exact h1 rfl h
theorem bH {y z:Option α} {r:α} {b:Bool} (h:(bif b then y else z)=some r) (h1:b=true→y=some r→A) (h2:b=false→z=some r→A):A:=by
  cases b
  · exact h2 rfl h
  · exact h1 rfl h
theorem AW.ux {ops:Array Oper} {fuel:Nat} {E:xg} {listed:Array Bool} {i d:Nat} {ty:TypeId} {pos:String} {aft:Array Edge} {g:Option (Nat×Bool)} {v:Value} {op:Op} (hn:listed[i]?=some false) (hi:ops[i]?=some ⟨some d,op,ty,pos,aft,g⟩) (hok:su ops listed i=true) (hw:xe ops g e=true) (hd:Nat.ble (d+1) n=true)
    (hl:qp P (ev e) op v) (h:AW P n ops Q fuel E (listed.setIfInBounds i true) (tm e d v) w):AW P n ops Q (fuel+1) E listed e w:=AW.u hi hok hw hd hl h
theorem St.cA {L:List Item} {g:Nat} {ty:TypeId} {cs:List Value} (h:St w0 F0 w L) (hm:∃ i:Nat,L[i]?=some (bx g ty cs)):w.heap[g]?=some (.cells cs.toArray ty (0,0)):=by
  obtain ⟨i,hi⟩:=hm;exact St.cell (h:=h) hi
theorem jn {ops:Array Oper} {fuel:Nat} {E:xg} {listed:Array Bool} {j:Nat} {w':World} (h:AW P n ops Q fuel E (listed.setIfInBounds j true) e w') (k:Kept ops j E w w':=by repeat (first | exact jZ | (refine Kept.c (St.cA (by assumption) (by repeat (first | exact wh | apply wj))) ?_) | (refine jW ?_))) :
    LW P n ops (fun x e' w2=>x=.normal∧Kept ops j E w w2∧AW P n ops Q fuel E (listed.setIfInBounds j true) e' w2) [] e w':=jN k h
theorem eo {m:List (Nat×Value)} {A:Prop} (h:En e m∧A):∃ e',e=qy e' m∧A:=by
  obtain ⟨e',he⟩:=h.1.out;exact ⟨e',he,h.2⟩
theorem LW.bd {ops:Array Oper} {rest:List Oper} {d:Nat} {ty:TypeId} {pos:String} {aft:Array Edge} {t:TypeId} {parts:Array (Nat×Operand)} (vs:List (Nat×Value)) (cs:Array Value) (h:LW P n ops Q rest (tm e d (.agg cs)) w) (hp:parts.toList.map (fun p=>(p.1,ev e p.2))=vs:=by exact rfl) (hb:P.built t vs=some cs:=by kernel_rfl) (hd:Nat.ble (d+1) n=true:=by exact rfl) :
    LW P n ops Q (⟨some d,.build t parts,ty,pos,aft,none⟩::rest) e w:=LW.u (qp.build hp hb) hd h
theorem AW.tk {ops:Array Oper} {fuel:Nat} {E:xg} {listed:Array Bool} {d:Nat} {ty:TypeId} {pos:String} {aft:Array Edge} {g:Option (Nat×Bool)} {v:Value} {op:Op} {C:World→Prop} (i:Nat) (hi:ops[i]?=some ⟨some d,op,ty,pos,aft,g⟩) (hl:rh P (ev e) op C v) (hC:C w) (h:AW P n ops Q fuel ((i,C)::E) (listed.setIfInBounds i true) (tm e d v) w)
    (hok:su ops listed i=true:=by kernel_rfl) (hw:xe ops g e=true:=by exact rfl) (hd:Nat.ble (d+1) n=true:=by exact rfl):AW P n ops Q (fuel+1) E listed e w:=AW.take hi hok hw hd hl hC h
theorem LP {w:World}:∀ l:List Int,sa w (l.map (Value.int .i64)) [] l
  | []=>rfl
  | x::l=>⟨[.int .i64 x],l.map (Value.int .i64),[],[],rfl,rfl,⟨rfl,rfl⟩,LP l⟩
theorem LW.bi {ops:Array Oper} {rest:List Oper} {d:Nat} {ty:TypeId} {pos:String} {aft:Array Edge} {L:List Item} {t:TypeId} {len:Nat} {parts:Array (Nat×Operand)} (l:List Int) (hS:St w0 F0 w L) (h:∀ (a:Option Addr) (c:Nat) (w':World),St w0 F0 w' (sl a c l::L)→Fr w w' []→LW P n ops Q rest (tm e d (.slice a l.length c)) w')
    (hp:parts.toList.map (fun p=>(p.1,ev e p.2))=l.zipIdx.map (fun p=>(p.2,Value.int .i64 p.1)):=by exact rfl) (hb:Gn P t len (l.zipIdx.map fun p=>(p.2,Value.int .i64 p.1))=some (qe.ty Int,(l.map (Value.int .i64)).toArray):=by kernel_rfl) (hl:l.length=len:=by exact rfl) (hL:Nat.ble len 65536=true:=by exact rfl) (hd:Nat.ble (d+1) n=true:=by exact rfl) :
    LW P n ops Q (⟨some d,.buildSlice t len parts,ty,pos,aft,none⟩::rest) e w:=LW.Ew hp hb hl (by subst hl;show (l.map (Value.int .i64)).toArray.size=l.length * 1;simp) hL (fun w=>LP l) hS hd h
theorem LW.b0 [qe α] {ops:Array Oper} {rest:List Oper} {d:Nat} {ty:TypeId} {pos:String} {aft:Array Edge} {L:List Item} {t:TypeId} {parts:Array (Nat×Operand)} (hS:St w0 F0 w L) (h:∀ (a:Option Addr) (c:Nat) (w':World),St w0 F0 w' (sl a c ([]:List α)::L)→Fr w w' []→LW P n ops Q rest (tm e d (.slice a ([]:List α).length c)) w')
    (hp:parts.toList.map (fun p=>(p.1,ev e p.2))=[]:=by exact rfl) (hb:Gn P t 0 []=some (qe.ty α, #[]):=by kernel_rfl) (hd:Nat.ble (d+1) n=true:=by exact rfl) :
    LW P n ops Q (⟨some d,.buildSlice t 0 parts,ty,pos,aft,none⟩::rest) e w:=LW.Ew (l:=([]:List α)) hp hb rfl (by simp) rfl (fun w=>rfl) hS hd h
-- fused
section
variable {ops:Array Oper} {rest:List Oper} {fuel:Nat} {E:xg} {listed:Array Bool} {d:Nat} {ty:TypeId} {pos:String} {aft:Array Edge} {v:Value} {l:List (Nat×Value)} {L:List Item} {j:Nat}
theorem C0 {E:Env} {t bt:TypeId} {x y:Operand} {a:Option Nat} {g o:Nat} {cs vs cs':List Value} {L':List Item} (hS:St w0 F0 w L) (i:Nat) (h:∀ w':World,St w0 F0 w' L'→LW P n ops Q rest (qy e l) w')
    (f:autoParam ((Unit→LW P n ops Q (⟨none,.store t x y,ty,pos,aft,none⟩::rest) E w)→B) go._auto_1) (hE:E=qy e l:=by repeat (first | (with_reducible exact rfl) | (with_reducible apply zN))) (hx:sP l x=some (.pointer (some ⟨g,o,none⟩)):=by rfl) (hi:L[i]?=some (bx g bt cs):=by rfl) (ht:rr P t=some a:=by exact sr.h) (hy:sP l y=some v:=by rfl) (hv:Nf v.cells.toList vs:=by repeat (first | ((with_reducible apply Nf.cons);rfl) | ((with_reducible apply Nf.nil);rfl))) (hm:vs.length=a.getD 1:=by rfl) (hl:Nat.ble (o+vs.length) cs.length=true:=by rfl) (h1:vs.all (·.oneCell')=true:=by rfl) (hc:Nf (Ez cs o vs) cs':=by repeat (first | ((with_reducible apply Nf.cons);rfl) | ((with_reducible apply Nf.nil);rfl))) (hL:Nf (L.set i (bx g bt cs')) L':=by repeat (first | ((with_reducible apply Nf.cons);rfl) | ((with_reducible apply Nf.nil);rfl))):B:=f fun _=>LW.st hS i h hE hx hi ht hy hv hm hl h1 hc hL
theorem C5 {E:Env} {t:TypeId} {x:Operand} {cs:List Value} (hS:St w0 F0 w L) (h:∀ (g:Nat) (w':World),St w0 F0 w' (bx g t cs::L)→LW P n ops Q rest (qy e ((d,.pointer (some ⟨g,0,none⟩))::l)) w')
    (f:autoParam ((Unit→LW P n ops Q (⟨some d,.box t x,ty,pos,aft,none⟩::rest) E w)→B) go._auto_1) (hE:E=qy e l:=by repeat (first | (with_reducible exact rfl) | (with_reducible apply zN))) (hx:sP l x=some v:=by rfl) (hv:Nf v.cells.toList cs:=by repeat (first | ((with_reducible apply Nf.cons);rfl) | ((with_reducible apply Nf.nil);rfl))) (hd:Nat.ble (d+1) n=true:=by rfl):B:=f fun _=>LW.bo hS h hE hx hv hd
theorem rU {E:Env} {m:List (Nat×Value)} {c:Code} (ds:List Nat) (k:∀ e',CW P n c Q (qy e' m) w)
    (f:autoParam ((Unit→CW P n c Q E w)→B) go._auto_1) (hE:E=qy e l:=by repeat (first | (with_reducible exact rfl) | (with_reducible apply zN))) (h:wQ l ds m:=by repeat (first | exact wQ.nil | (apply wQ.cons;rfl))):B:=f fun _=>CW.fl ds k hE h
theorem sM {o:Oper} (i:Nat) (h:LW P n ops (fun x e' w'=>x=.normal∧Kept ops i E w w'∧AW P n ops Q fuel E (listed.setIfInBounds i true) e' w') [o] e w)
    (f:autoParam ((Unit→AW P n ops Q (fuel+1) E listed e w)→B) go._auto_1) (ho:ops[i]?=some o:=by rfl) (hr:Region.ready .any ops listed=[i]:=by kernel_rfl):B:=f fun _=>jO i h ho hr
theorem dW {id:Nat} {lo:List Oper} (h:AW P n lo.toArray Q lo.length [] (Array.replicate lo.length false) e w.drew) (hm:P.follows .mixedOrders=true:=by kernel_rfl):CW P n (.region id lo.toArray true) Q e w:=CW.draw hm h
theorem sf {id:Nat} {lo:List Oper} (h:AW P n lo.toArray Q lo.length [] (Array.replicate lo.length false) e w.drew) (f:autoParam ((Unit→CW P n (.region id lo.toArray true) Q e w)→B) go._auto_1) (hm:P.follows .mixedOrders=true:=by kernel_rfl):B:=f fun _=>CW.draw hm h
theorem rX {t:TypeId} {parts:Array (Nat×Operand)} (vs:List (Nat×Value)) (cs:Array Value) (h:LW P n ops Q rest (tm e d (.agg cs)) w) (f:autoParam ((Unit→LW P n ops Q (⟨some d,.build t parts,ty,pos,aft,none⟩::rest) e w)→B) go._auto_1) (hp:parts.toList.map (fun p=>(p.1,ev e p.2))=vs:=by exact rfl) (hb:P.built t vs=some cs:=by kernel_rfl) (hd:Nat.ble (d+1) n=true:=by exact rfl) :
    B:=f fun _=>LW.u (qp.build hp hb) hd h
end
-- end fused
theorem tt {t:Nat}:qt P e w (.tmp t) (e t):=rfl
theorem rx {t:Nat} {K:Value→Prop} (k:K (e t)):∃ v,tu P #[.tmp t] e w v∧K v:=⟨_,tu.one rfl,k⟩
theorem Ra {t:Nat} {K:Value→Prop} (k:K (e t)):True∧∃ v,tu P #[.tmp t] e w v∧K v:=⟨trivial,_,tu.one rfl,k⟩
theorem ry {r s:ResultVar} {u v:Value} {K:Value→Prop} (h:qt P e w r u) (k:qt P e w s v) (q:K (.tuple #[u,v])):∃ v,tu P #[r,s] e w v∧K v:=⟨_,tu.two h k,q⟩
theorem Rc {r s:ResultVar} {u v:Value} {K:Value→Prop} (h:qt P e w r u) (k:qt P e w s v) (q:K (.tuple #[u,v])):True∧∃ v,tu P #[r,s] e w v∧K v:=⟨trivial,_,tu.two h k,q⟩
end
section
variable {α:Type} [qe α] {w w0:World} {F0:List Nat}
theorem St.vH {a:Option Addr} {c k:Nat} {l:List α} {cs:List Value} {Z X R:List Item} (h:St w0 F0 w Z) (y:α) (is:List Nat) (m i:Nat) (hp:uy Z is=some X) (hi:X[m+i]?=some (hole α a c l k cs)) (hM:∀ (w:World) (G:List Nat),qX (X.take m) w G→qe.own w cs G y)
    (hn:xW is=true:=by exact rfl) (hR:Nf ((X.drop m).set i (sl a c (l.set k y))) R:=by repeat (first | ((with_reducible apply Nf.cons);rfl) | ((with_reducible apply Nf.nil);rfl))):St w0 F0 w R:=by
  cases hR.eq;have h2:=h.pick is hp hn;rw [← List.take_append_drop m X] at h2;exact h2.RQ i (by rw [List.getElem?_drop];exact hi) hM
end
abbrev qP (a0:Ad) (c0:Nat) (a1:Ad) (c1:Nat) (a2:Ad) (c2:Nat) (a3:Ad) (c3:Nat) (a4:Ad) (c4:Nat) (a5:Ad) (c5:Nat) (x:cd):List Value:=[vS a0 x.Vb.Va.length c0,vS a1 x.own.length c1,vS a2 x.Vd.length c2,vS a3 x.U7.ag.length c3,vI x.U7.gc.Ve,vI x.U7.gc.Vn,vI x.U7.gc.Vg,vS a4 x.U7.gc.pT.length c4,vS a5 x.pU.length c5,vI x.Vj,vI x.Vk,vI x.bh.gE,vI x.bh.qa,vI x.bh.qg,vI x.pZ,vI x.Vi]
abbrev qO (a0:Ad) (c0:Nat) (a1:Ad) (c1:Nat) (a2:Ad) (c2:Nat) (x:j8):List Value:=[vI x.Vr,vI x.Vc,vI x.box,vI x.Vp,vI x.qx,vI x.gE,vI x.Vl,vI x.qw,vI x.qq,.bool x.Vm,vS a0 x.pX.length c0,vS a1 x.Vh.length c1,vS a2 x.Vf.length c2]
abbrev qC (a0:Ad) (c0:Nat) (a1:Ad) (c1:Nat) (a2:Ad) (c2:Nat) (a3:Ad) (c3:Nat) (a4:Ad) (c4:Nat) (a5:Ad) (c5:Nat) (x:qu):List Value:=[vS a0 x.U9.Vb.Va.length c0,vS a1 x.U9.own.length c1,vS a2 x.U9.Vd.length c2,vS a3 x.U9.U7.ag.length c3,vI x.U9.U7.gc.Ve,vI x.U9.U7.gc.Vn,vI x.U9.U7.gc.Vg,vS a4 x.U9.U7.gc.pT.length c4,vS a5 x.U9.pU.length c5,vI x.U9.Vj,vI x.U9.Vk,vI x.U9.bh.gE,vI x.U9.bh.qa,vI x.U9.bh.qg,vI x.U9.pZ,vI x.U9.Vi,vI x.me,vI x.Vo,vI x.qA]
abbrev qL (x:qD):List Value:=[vI x.Vc,vI x.a,vI x.b,vI x.c,vI x.d,vI x.e]
abbrev qE (x:ui):List Value:=[vI x.Vc,vI x.U9,vI x.qA,vI x.call.Vc,vI x.call.a,vI x.call.b,vI x.call.c,vI x.call.d,vI x.call.e]
abbrev qH (a0:Ad) (c0:Nat) (a1:Ad) (c1:Nat) (x:qd):List Value:=[vS a0 x.ag.length c0,vI x.gc.Ve,vI x.gc.Vn,vI x.gc.Vg,vS a1 x.gc.pT.length c1]
abbrev qT (x:qB):List Value:=[vI x.Vp,vI x.rJ,vI x.sX,vI x.sc,vI x.Vc,vI x.sq]
end Go.Kx
namespace Go.Kx
open Go Go.RowKit
set_option linter.unusedVariables false
set_option linter.unusedSimpArgs false
class Ct (P:Program) (f:FuncId) where
  {T:Prop}
  p:Bq P f=true
  h:T
def KX (K G:Value→World→Prop) (A:Prop):Prop:=(Unit→A)→∀ v w,K v w→G v w
theorem KX.ex {γ:Type} {K:γ→Value→World→Prop} {G:Value→World→Prop} {A:γ→Prop} (h:∀ c,KX (K c) G (A c)):KX (fun v w=>∃ c,K c v w) G (∀ c,A c):=fun a v w ⟨c,hc⟩=>h c (fun _=>a () c) v w hc
inductive DQ (l:List (Nat×Value)):List Operand→List Value→Prop
  | nil:DQ l [] []
  | cons {x:Operand} {v:Value} {xs:List Operand} {vs:List Value} (h:sP l x=some v) (t:DQ l xs vs):DQ l (x::xs) (v::vs)
theorem DQ.eq {e:Env} {l:List (Nat×Value)}:∀ {xs:List Operand} {vs:List Value},DQ l xs vs→xs.map (ev (qy e l))=vs
  | _,_,.nil=>rfl
  | _,_,.cons h t=>by rw [List.map_cons,rC h,t.eq]
inductive Ud (g:Nat) (bt:TypeId) (cs cs':List Value):List Item→List Item→Prop
  | hd {L:List Item}:Ud g bt cs cs' (bx g bt cs::L) (bx g bt cs'::L)
  | tl {x:Item} {L L':List Item} (h:Ud g bt cs cs' L L'):Ud g bt cs cs' (x::L) (x::L')
theorem Ud.ix {g:Nat} {bt:TypeId} {cs cs':List Value}:∀ {L L':List Item},Ud g bt cs cs' L L'→∃ i:Nat,L[i]?=some (bx g bt cs)∧L'=L.set i (bx g bt cs')
  | _,_,.hd=>⟨0,rfl,rfl⟩
  | _,_,.tl h=>by
    obtain ⟨i,h1,h2⟩:=h.ix;exact ⟨i+1,h1,by rw [h2];rfl⟩
inductive E8 (L:List Item):List Nat→List Item→Prop
  | nil:E8 L [] []
  | cons {i:Nat} {x:Item} {is:List Nat} {M:List Item} (h:L[i]?=some x) (t:E8 L is M):E8 L (i::is) (x::M)
theorem E8.eq {L:List Item}:∀ {is:List Nat} {M:List Item},E8 L is M→uy L is=some M
  | _,_,.nil=>rfl
  | _,_,.cons h t=>by unfold uy;rw [h,t.eq]
theorem Qy {L:List Item} {x:Item} (h:∃ i:Nat,L[i]?=some x):∃ i:Nat,L[i]?=some x:=h
theorem Ue {L:List Item} {x:Item}:(x::L)[0]?=some x:=rfl
theorem Uh {L:List Item} {x y:Item} {i:Nat} (h:L[i]?=some x):(y::L)[i+1]?=some x:=h
section
variable {P:Program} {n:Nat} {Q:tr} {e:Env} {l:List (Nat×Value)} {w w0:World} {F0:List Nat} {L L':List Item} {ops:Array Oper} {rest:List Oper} {ty:TypeId} {pos:String} {aft:Array Edge} {d:Nat} {v:Value}
theorem St.U4 {M:List Item} {is:List Nat} (h:St w0 F0 w L) (hs:E8 L is M) (hn:xW is=true):St w0 F0 w M:=h.pick is hs.eq hn
theorem St.rM {α:Type} [qe α] {a:Option Addr} {c:Nat} {m:List α} (h:St w0 F0 w L) (hm:∃ i:Nat,L[i]?=some (sl a c m)):ra (r7 w []) w a c m:=by
  obtain ⟨i,hi⟩:=hm;exact h.rI i hi
theorem St.L9 {α:Type} [qe α] {a:Option Addr} {c:Nat} {m:List α} {w1:World} {F:List Nat} (h:St w0 F0 w L) (hr:ra (fun b=>b ∈ F) w1 a c m) (hm:∃ i:Nat,L[i]?=some (fz w1 F)):ra (r7 w []) w a c m:=by
  obtain ⟨i,hi⟩:=hm;exact h.rZ i hi hr
theorem St.QP {α:Type} [qe α] {a:Option Addr} {c:Nat} {m:List α} {w1:World} {F:List Nat} (h:St w0 F0 w L) (hr:uV w1 a c F m) (hm:∃ i:Nat,L[i]?=some (fz w1 F)):ra (r7 w []) w a c m:=h.L9 hr.rQ hm
theorem KX.f0 {G:Value→World→Prop} {u:Value} {A:World→Prop} (hS:St w0 F0 w L) (k:∀ w',St w0 F0 w' L→(Unit→A w')→G u w'):KX (fun v w'=>v=u∧St w [] w' []) G (∀ w',St w0 F0 w' L→A w'):=fun a v w' ⟨h1,h2⟩=>by
  subst h1
  have h3:St w0 F0 w' L:=by simpa using hS.add h2
  exact k w' h3 fun _=>a () w' h3
theorem KX.f1 {G:Value→World→Prop} {u:Value} {M:List Item} {A:World→Prop} (hS:St w0 F0 w L) (k:∀ w',St w0 F0 w' (M++L)→(Unit→A w')→G u w'):KX (fun v w'=>v=u∧St w [] w' M) G (∀ w',St w0 F0 w' (M++L)→A w'):=fun a v w' ⟨h1,h2⟩=>by
  subst h1;exact k w' (hS.add h2) fun _=>a () w' (hS.add h2)
theorem gK {α β:Type} {o:Option α} {g:α→Option β} {r:β} {A:α→Prop} {G:Prop} (h:o.bind g=some r) (a:Unit→∀ x,o=some x→g x=some r→A x) (k:∀ x,o=some x→g x=some r→(Unit→A x)→G):G:=by
  obtain ⟨x,h1,h2⟩:=Option.bind_eq_some_iff.1 h;exact k x h1 h2 fun _=>a () x h1 h2
theorem LW.R1 {f:FuncId} {as:Array Operand} {ts:Array TypeId} (h:LW P n ops Q (⟨some d,.call { callee:=.value (.func f),args:=as,argTypes:=ts },ty,pos,aft,none⟩::rest) e w):LW P n ops Q (⟨some d,.call { callee:=.value (.func f),args:=as,argTypes:=ts },ty,pos,aft,none⟩::rest) e w:=h
theorem LW.kL {f:FuncId} [c:Ct P f] {as:Array Operand} {ts:Array TypeId} {al:List Value} {K:Value→World→Prop} {A:Prop} (a:Unit→A) (q:c.T→pY P f al.toArray w K) (x:KX K (fun v w'=>LW P n ops Q rest (qy e ((d,v)::l)) w') A) (hd:Nat.ble (d+1) n=true) (hargs:DQ l as.toList al) :
    LW P n ops Q (⟨some d,.call { callee:=.value (.func f),args:=as,argTypes:=ts },ty,pos,aft,none⟩::rest) (qy e l) w:=LW.cl (q c.h) (fun v w' hk=>x a v w' hk) c.p hd hargs.eq
theorem LW.sT {t bt:TypeId} {x y:Operand} {av:Option Nat} {g o:Nat} {cs vs cs':List Value} {A:World→Prop} (a:Unit→∀ w':World,St w0 F0 w' L'→A w')
    (hx:sP l x=some (.pointer (some ⟨g,o,none⟩))) (hS:St w0 F0 w L) (hU:Ud g bt cs cs' L L') (ht:rr P t=some av) (hy:sP l y=some v) (hv:Nf v.cells.toList vs) (hm:vs.length=av.getD 1) (hl:Nat.ble (o+vs.length) cs.length=true) (h1:vs.all (·.oneCell')=true) (hc:Nf (Ez cs o vs) cs')
    (k:∀ w':World,St w0 F0 w' L'→(Unit→A w')→LW P n ops Q rest (qy e l) w'):LW P n ops Q (⟨none,.store t x y,ty,pos,aft,none⟩::rest) (qy e l) w:=by
  obtain ⟨i,h2,rfl⟩:=hU.ix;cases hv.eq;cases hc.eq;exact LW.Ub hS i h2 ht (rC hx) (by rw [rC hy]) hm hl h1 fun w' hS' _=>k w' hS' fun _=>a () w' hS'
theorem LW.bT {t:TypeId} {x:Operand} {cs:List Value} {A:Nat→World→Prop} (a:Unit→∀ (g:Nat) (w':World),St w0 F0 w' (bx g t cs::L)→A g w') (hx:sP l x=some v) (hv:Nf v.cells.toList cs) (hS:St w0 F0 w L) (hd:Nat.ble (d+1) n=true)
    (k:∀ (g:Nat) (w':World),St w0 F0 w' (bx g t cs::L)→(Unit→A g w')→LW P n ops Q rest (qy e ((d,.pointer (some ⟨g,0,none⟩))::l)) w'):LW P n ops Q (⟨some d,.box t x,ty,pos,aft,none⟩::rest) (qy e l) w:=by
  cases hv.eq;exact LW.box (by rw [rC hx]) hS hd fun g w' hS' _=>k g w' hS' fun _=>a () g w' hS'
theorem LW.aT {t:TypeId} {cs:List Value} {A:Nat→World→Prop} [z:Ca P t] (a:Unit→∀ (g:Nat) (w':World),St w0 F0 w' (bx g t cs::L)→A g w') (hv:Nf z.z.cells.toList cs) (hS:St w0 F0 w L) (hd:Nat.ble (d+1) n=true)
    (k:∀ (g:Nat) (w':World),St w0 F0 w' (bx g t cs::L)→(Unit→A g w')→LW P n ops Q rest (qy e ((d,.pointer (some ⟨g,0,none⟩))::l)) w'):LW P n ops Q (⟨some d,.alloc t,ty,pos,aft,none⟩::rest) (qy e l) w:=by
  cases hv.eq;exact LW.alloc z.h hS hd fun g w' hS' _=>k g w' hS' fun _=>a () g w' hS'
theorem tu.at {rs:Array ResultVar} (h:tu P rs e w v):tu P rs e w v:=h
theorem qt.at {r:ResultVar} (h:qt P e w r v):qt P e w r v:=h
theorem qt.bM {a T m g:Nat} {bt:TypeId} {cs:List Value} (ha:e a=.pointer (some ⟨g,0,none⟩)) (hS:St w0 F0 w L) (hi:∃ i:Nat,L[i]?=some (bx g bt cs)) (ht:rr P T=some (some m)) (hm:cs.length=m):qt P e w (.cell a T) (.agg cs.toArray):=by
  obtain ⟨i,hi⟩:=hi;exact .b hS i hi ht ha hm
theorem qt.cM {a T g:Nat} {bt:TypeId} {cs:List Value} (ha:e a=.pointer (some ⟨g,0,none⟩)) (hS:St w0 F0 w L) (hi:∃ i:Nat,L[i]?=some (bx g bt cs)) (ht:rr P T=some none) (hv:Dl cs 0=some v):qt P e w (.cell a T) v:=by
  obtain ⟨i,hi⟩:=hi;exact .b1 hS i hi ht ha hv
section
variable {fuel:Nat} {E:xg} {listed:Array Bool} {i b:Nat}
theorem St.Cl {b:Nat} (h:St w0 F0 w L) (hb:r7 w0 F0 b):w.heap[b]?=w0.heap[b]?:=h.same b hb.1 hb.2
theorem St.zM {b:Nat} {w1:World} {F:List Nat} (h:St w0 F0 w L) (hb:b ∈ F) (hi:∃ i:Nat,L[i]?=some (fz w1 F)):w.heap[b]?=w1.heap[b]?:=by
  obtain ⟨i,hi⟩:=hi;exact h.zC i hi hb
theorem U5 {j:Nat} {w':World} (k:Kept ops j E w w') (h:AW P n ops Q fuel E (listed.setIfInBounds j true) e w') :
    LW P n ops (fun x e' w2=>x=.normal∧Kept ops j E w w2∧AW P n ops Q fuel E (listed.setIfInBounds j true) e' w2) [] e w':=jN k h
theorem AW.oN (k:Nat) {dd:Option Tmp} {op:Op} {g:Option (Nat×Bool)} (hx:Nx listed b) (hi:ops[b+k]?=some ⟨dd,op,ty,pos,aft,g⟩) (hs:O3 ops listed (b+k)=true) (hr:(Region.ready .any ops listed==[b+k])=true)
    (h:LW P n ops (fun x e' w'=>x=.normal∧Kept ops (b+k) E w w'∧AW P n ops Q fuel E (listed.setIfInBounds (b+k) true) e' w') [⟨dd,op,ty,pos,aft,g⟩] e w):AW P n ops Q (fuel+1) E listed e w:=AW.one (by simpa using hr) ⟨_,hi,h⟩
theorem jP (i:Nat) {dd:Option Tmp} {op:Op} {g:Option (Nat×Bool)} (h:LW P n ops (fun x e' w'=>x=.normal∧Kept ops i E w w'∧AW P n ops Q fuel E (listed.setIfInBounds i true) e' w') [⟨dd,op,ty,pos,aft,g⟩] e w)
    (ho:ops[i]?=some ⟨dd,op,ty,pos,aft,g⟩:=by rfl) (hr:Region.ready .any ops listed=[i]:=by kernel_rfl):AW P n ops Q (fuel+1) E listed e w:=AW.one hr ⟨_,ho,h⟩
theorem oA {i:Nat} {dd:Option Tmp} {op:Op} {g:Option (Nat×Bool)} {R:tr} (h:LW P n ops R [⟨dd,op,ty,pos,aft,g⟩] e w) (ho:ops[i]?=some ⟨dd,op,ty,pos,aft,g⟩:=by rfl):∃ o,ops[i]?=some o∧LW P n ops R [o] e w:=⟨_,ho,h⟩
end
section
variable {t:TypeId} {x:Operand} {b O k m:Nat} {cs vs:List Value} {w1:World} {fuel:Nat} {E:xg} {listed:Array Bool} {i:Nat}
theorem LW.Tf (hx:sP l x=some (.pointer (some ⟨b,O,none⟩))) (hk:∀ (j:Nat) (u:Value),cs[j]?=some u→w1.cell? ⟨b,O+j,none⟩=some u) (hb:w.heap[b]?=w1.heap[b]?) (ht:rr P t=some none) (hv:cs[0]?=some v) (hd:Nat.ble (d+1) n=true)
    (h:LW P n ops Q rest (qy e ((d,v)::l)) w):LW P n ops Q (⟨some d,.load t x,ty,pos,aft,none⟩::rest) (qy e l) w:=LW.l (rh.rR w1 ht (rC hx) (hk 0 v hv)) hb hd h
theorem LW.Si (hx:sP l x=some (.pointer (some ⟨b,O+k,none⟩))) (hk:∀ (j:Nat) (u:Value),cs[j]?=some u→w1.cell? ⟨b,O+j,none⟩=some u) (hb:w.heap[b]?=w1.heap[b]?) (ht:rr P t=some none) (hv:cs[k]?=some v) (hd:Nat.ble (d+1) n=true)
    (h:LW P n ops Q rest (qy e ((d,v)::l)) w):LW P n ops Q (⟨some d,.load t x,ty,pos,aft,none⟩::rest) (qy e l) w:=LW.l (rh.rR w1 ht (rC hx) (hk k v hv)) hb hd h
theorem FD (hk:∀ (j:Nat) (u:Value),cs[j]?=some u→w1.cell? ⟨b,O+j,none⟩=some u):∀ (j:Nat) (u:Value),(zF cs k m)[j]?=some u→w1.cell? ⟨b,O+k+j,none⟩=some u:=fun j u hu=>by
  rw [Nat.add_assoc];exact hk _ _ (Fs _ _ _ _ _ hu)
theorem LW.S5 (hx:sP l x=some (.pointer (some ⟨b,O,none⟩))) (hk:∀ (j:Nat) (u:Value),cs[j]?=some u→w1.cell? ⟨b,O+j,none⟩=some u) (hb:w.heap[b]?=w1.heap[b]?) (ht:rr P t=some (some m)) (hl:Nat.ble (0+m) cs.length=true) (hd:Nat.ble (d+1) n=true) (hn:Nf (zF cs 0 m) vs)
    (h:LW P n ops Q rest (qy e ((d,.agg vs.toArray)::l)) w):LW P n ops Q (⟨some d,.load t x,ty,pos,aft,none⟩::rest) (qy e l) w:=by
  cases hn.eq;exact LW.l (rh.Bj w1 ht (rC hx) (Bs _ _ _ (Nat.le_of_ble_eq_true hl)) (FD (k:=0) hk)) hb hd h
theorem LW.Sf (hx:sP l x=some (.pointer (some ⟨b,O+k,none⟩))) (hk:∀ (j:Nat) (u:Value),cs[j]?=some u→w1.cell? ⟨b,O+j,none⟩=some u) (hb:w.heap[b]?=w1.heap[b]?) (ht:rr P t=some (some m)) (hl:Nat.ble (k+m) cs.length=true) (hd:Nat.ble (d+1) n=true) (hn:Nf (zF cs k m) vs)
    (h:LW P n ops Q rest (qy e ((d,.agg vs.toArray)::l)) w):LW P n ops Q (⟨some d,.load t x,ty,pos,aft,none⟩::rest) (qy e l) w:=by
  cases hn.eq;exact LW.l (rh.Bj w1 ht (rC hx) (Bs _ _ _ (Nat.le_of_ble_eq_true hl)) (FD hk)) hb hd h
theorem ss.Tf (hx:sP l x=some (.pointer (some ⟨b,O,none⟩))) (hk:∀ (j:Nat) (u:Value),cs[j]?=some u→w1.cell? ⟨b,O+j,none⟩=some u) (hb:w.heap[b]?=w1.heap[b]?) (ht:rr P t=some none) (hv:cs[0]?=some v) (hd:Nat.ble (d+1) n=true) (hok:su ops listed i=true)
    (h:AW P n ops Q fuel ((i,fun w=>w.heap[b]?=w1.heap[b]?)::E) (listed.setIfInBounds i true) (qy e ((d,v)::l)) w):ss P n ops Q fuel E listed i d (.load t x) (qy e l) w:=⟨hok,hd,v,.inr ⟨_,rh.rR w1 ht (rC hx) (hk 0 v hv),hb,h⟩⟩
theorem ss.Si (hx:sP l x=some (.pointer (some ⟨b,O+k,none⟩))) (hk:∀ (j:Nat) (u:Value),cs[j]?=some u→w1.cell? ⟨b,O+j,none⟩=some u) (hb:w.heap[b]?=w1.heap[b]?) (ht:rr P t=some none) (hv:cs[k]?=some v) (hd:Nat.ble (d+1) n=true) (hok:su ops listed i=true)
    (h:AW P n ops Q fuel ((i,fun w=>w.heap[b]?=w1.heap[b]?)::E) (listed.setIfInBounds i true) (qy e ((d,v)::l)) w):ss P n ops Q fuel E listed i d (.load t x) (qy e l) w:=⟨hok,hd,v,.inr ⟨_,rh.rR w1 ht (rC hx) (hk k v hv),hb,h⟩⟩
theorem ss.S5 (hx:sP l x=some (.pointer (some ⟨b,O,none⟩))) (hk:∀ (j:Nat) (u:Value),cs[j]?=some u→w1.cell? ⟨b,O+j,none⟩=some u) (hb:w.heap[b]?=w1.heap[b]?) (ht:rr P t=some (some m)) (hl:Nat.ble (0+m) cs.length=true) (hd:Nat.ble (d+1) n=true) (hn:Nf (zF cs 0 m) vs) (hok:su ops listed i=true)
    (h:AW P n ops Q fuel ((i,fun w=>w.heap[b]?=w1.heap[b]?)::E) (listed.setIfInBounds i true) (qy e ((d,.agg vs.toArray)::l)) w):ss P n ops Q fuel E listed i d (.load t x) (qy e l) w:=by
  cases hn.eq;exact ⟨hok,hd,_,.inr ⟨_,rh.Bj w1 ht (rC hx) (Bs _ _ _ (Nat.le_of_ble_eq_true hl)) (FD (k:=0) hk),hb,h⟩⟩
theorem ss.Sf (hx:sP l x=some (.pointer (some ⟨b,O+k,none⟩))) (hk:∀ (j:Nat) (u:Value),cs[j]?=some u→w1.cell? ⟨b,O+j,none⟩=some u) (hb:w.heap[b]?=w1.heap[b]?) (ht:rr P t=some (some m)) (hl:Nat.ble (k+m) cs.length=true) (hd:Nat.ble (d+1) n=true) (hn:Nf (zF cs k m) vs) (hok:su ops listed i=true)
    (h:AW P n ops Q fuel ((i,fun w=>w.heap[b]?=w1.heap[b]?)::E) (listed.setIfInBounds i true) (qy e ((d,.agg vs.toArray)::l)) w):ss P n ops Q fuel E listed i d (.load t x) (qy e l) w:=by
  cases hn.eq;exact ⟨hok,hd,_,.inr ⟨_,rh.Bj w1 ht (rC hx) (Bs _ _ _ (Nat.le_of_ble_eq_true hl)) (FD hk),hb,h⟩⟩
theorem LK {A B:Prop} (a:A) (f:(Unit→A)→B:=by
    intro a
    (first
      | ((with_reducible apply ss.Tf);rfl;(with_reducible_and_instances assumption);(first | ((with_reducible apply St.Cl);(with_reducible assumption);(with_reducible assumption)) | ((with_reducible apply St.zM);(with_reducible assumption);(with_reducible assumption);(repeat (first | exact wh | apply wj))));(exact sr.h);rfl;rfl;(decide +kernel))
      | ((with_reducible apply ss.Si);rfl;(with_reducible_and_instances assumption);(first | ((with_reducible apply St.Cl);(with_reducible assumption);(with_reducible assumption)) | ((with_reducible apply St.zM);(with_reducible assumption);(with_reducible assumption);(repeat (first | exact wh | apply wj))));(exact sr.h);rfl;rfl;(decide +kernel))
      | ((with_reducible apply ss.S5);rfl;(with_reducible_and_instances assumption);(first | ((with_reducible apply St.Cl);(with_reducible assumption);(with_reducible assumption)) | ((with_reducible apply St.zM);(with_reducible assumption);(with_reducible assumption);(repeat (first | exact wh | apply wj))));(exact sr.h);rfl;rfl;(repeat (first | ((with_reducible apply Nf.cons);rfl) | ((with_reducible apply Nf.nil);rfl)));(decide +kernel))
      | ((with_reducible apply ss.Sf);rfl;(with_reducible_and_instances assumption);(first | ((with_reducible apply St.Cl);(with_reducible assumption);(with_reducible assumption)) | ((with_reducible apply St.zM);(with_reducible assumption);(with_reducible assumption);(repeat (first | exact wh | apply wj))));(exact sr.h);rfl;rfl;(repeat (first | ((with_reducible apply Nf.cons);rfl) | ((with_reducible apply Nf.nil);rfl)));(decide +kernel)))
    exact a ()):B:=f fun _=>a
theorem UZ {A B:Prop} (a:A) (f:(Unit→A)→B:=by
    intro a
    with_reducible apply AW.Se
    (first
      | ((apply AW.gN 0);(first | exact Nx.set _ _ | exact Nx.start _);rfl;rfl;refine LK ?_)
      | ((apply AW.gY 0);(first | exact Nx.set _ _ | exact Nx.start _);rfl;rfl;rfl;rfl;(first | assumption | rfl);refine LK ?_)
      | ((apply AW.gN 1);(first | exact Nx.set _ _ | exact Nx.start _);rfl;(decide +kernel);refine LK ?_)
      | ((apply AW.gY 1);(first | exact Nx.set _ _ | exact Nx.start _);rfl;(decide +kernel);rfl;rfl;(first | assumption | rfl);refine LK ?_)
      | ((apply AW.gN 2);(first | exact Nx.set _ _ | exact Nx.start _);rfl;(decide +kernel);refine LK ?_)
      | ((apply AW.gY 2);(first | exact Nx.set _ _ | exact Nx.start _);rfl;(decide +kernel);rfl;rfl;(first | assumption | rfl);refine LK ?_))
    exact a ()):B:=f fun _=>a
end
def GO:List Item→Nat→List Nat→List Nat
  | [],_,_=>[]
  | _::L,j,is=>bif is.any (Nat.beq j) then GO L (j+1) is else j::GO L (j+1) is
theorem H0 {L R:List Item} {js:List Nat}:∀ {is:List Nat} {M:List Item},uy L is=some M→uy L js=some R→uy L (is++js)=some (M++R)
  | [],_,h,k=>by cases h;exact k
  | i::is,M,h,k=>by
    unfold uy at h;split at h
    · rename_i x m h1 h2;cases h;rw [List.cons_append];unfold uy;rw [h1,H0 h2 k];rfl
    · cases h
theorem LW.kE {f:FuncId} [c:Ct P f] {as:Array Operand} {ts:Array TypeId} {al:List Value} {K:List Nat→Value→World→Prop} {A:Prop} {M R:List Item} {is:List Nat} (a:Unit→A) (hS:St w0 F0 w L)
    (q:∀ F,wm w0 F0 w M R F→c.T→pY P f al.toArray w (K F)) (x:∀ F,wm w0 F0 w M R F→KX (K F) (fun v w'=>LW P n ops Q rest (qy e ((d,v)::l)) w') A) (hd:Nat.ble (d+1) n=true) (hargs:DQ l as.toList al)
    (hsel:E8 L is M) (hR:uy L (GO L 0 is)=some R) (hn:xW (is++GO L 0 is)=true) :
    LW P n ops Q (⟨some d,.call { callee:=.value (.func f),args:=as,argTypes:=ts },ty,pos,aft,none⟩::rest) (qy e l) w:=by
  obtain ⟨F,hL⟩:=(hS.pick (is++GO L 0 is) (H0 hsel.eq hR) hn).SO;exact LW.cl (q F hL c.h) (fun v w' hk=>x F hL a v w' hk) c.p hd hargs.eq
theorem KX.fE {M M' R:List Item} {F:List Nat} {G:Value→World→Prop} {u:Value} {A:World→Prop} (hL:wm w0 F0 w M R F) (k:∀ w',St w0 F0 w' (M'++R)→(Unit→A w')→G u w'):KX (fun v w'=>v=u∧St w F w' M') G (∀ w',St w0 F0 w' (M'++R)→A w'):=fun a v w' ⟨h1,h2⟩=>by
  subst h1;exact k w' (hL.back _ _ h2) fun _=>a () w' (hL.back _ _ h2)
theorem wm.rM {α:Type} [qe α] {M R:List Item} {F:List Nat} {a:Option Addr} {c:Nat} {m:List α} (h:wm w0 F0 w M R F) (hm:∃ i:Nat,R[i]?=some (sl a c m)):ra (r7 w F) w a c m:=by
  obtain ⟨i,hi⟩:=hm;exact h.rI i hi
theorem wm.L9 {α:Type} [qe α] {M R:List Item} {F Fz:List Nat} {w1:World} {a:Option Addr} {c:Nat} {m:List α} (h:wm w0 F0 w M R F) (hr:ra (fun b=>b ∈ Fz) w1 a c m) (hm:∃ i:Nat,R[i]?=some (fz w1 Fz)):ra (r7 w F) w a c m:=by
  obtain ⟨i,hi⟩:=hm;exact h.rZ i hi hr
theorem wm.QP {α:Type} [qe α] {M R:List Item} {F Fz:List Nat} {w1:World} {a:Option Addr} {c:Nat} {m:List α} (h:wm w0 F0 w M R F) (hr:uV w1 a c Fz m) (hm:∃ i:Nat,R[i]?=some (fz w1 Fz)):ra (r7 w F) w a c m:=h.L9 hr.rQ hm
theorem rt {B:Prop} (f:B:=by
    refine go ?_
    first | cases h | skip
    repeat' (first
      | exact trivial
      | ((with_reducible apply tu.at);(first | apply tu.one | apply tu.two | apply tu.three | apply tu.four | exact tu.zero))
      | ((with_reducible apply qt.at);(first | exact qt.t rfl | ((apply qt.bM);(exact rfl);(with_reducible assumption);(repeat (first | exact wh | apply wj));(exact sr.h);(exact rfl)) | ((apply qt.cM);(exact rfl);(with_reducible assumption);(repeat (first | exact wh | apply wj));(exact sr.h);(exact rfl))))
      | ((with_reducible apply St.U4);(with_reducible assumption);(repeat (first | exact E8.nil | ((apply E8.cons);(repeat (first | exact Ue | apply Uh)))));(exact rfl))
      | apply And.intro
      | apply Exists.intro
      | exact rfl)):B:=f
theorem LW.UX {dd:Option Tmp} {op:Op} {g:Option (Nat×Bool)} (h:LW P n ops Q (⟨dd,op,ty,pos,aft,g⟩::rest) e w):LW P n ops Q (⟨dd,op,ty,pos,aft,g⟩::rest) e w:=h
theorem LW.U2 {r:List Oper} {dd:Option Tmp} {op:Op} {g:Option (Nat×Bool)} (hr:r=⟨dd,op,ty,pos,aft,g⟩::rest) (h:LW P n ops Q (⟨dd,op,ty,pos,aft,g⟩::rest) e w):LW P n ops Q r e w:=by subst hr;exact h
theorem CW.UP {id:Nat} {lo:List Oper} (hg:lo.all (fun o=>o.guard.isNone)=true) (h:CW P n (.region id lo.toArray false) Q e w):CW P n (.region id lo.toArray false) Q e w:=h
theorem T {A B:Prop} (a:A) (f:(Unit→A)→B:=by
    intro a
    repeat (first
      | ((with_reducible apply CW.nr);(repeat first | (with_reducible exact rfl) | (with_reducible apply zN)))
      | with_reducible apply CW.seq
      | with_reducible apply QF
      | with_reducible apply QN
      | with_reducible apply QI
      | with_reducible apply QD
      | with_reducible apply QB
      | with_reducible apply QA
      | ((with_reducible apply QO);(exact rfl))
      | with_reducible apply CW.region
      | with_reducible apply CW.skip
      | with_reducible apply CW.block
      | with_reducible apply CW.exit
      | (with_reducible apply CW.ret))
    repeat (first
      | ((with_reducible apply LW.nr);(repeat first | (with_reducible exact rfl) | (with_reducible apply zN)))
      | ((with_reducible apply LW.yes);rfl;rfl;(first | assumption | rfl))
      | ((with_reducible apply LW.no);rfl;rfl;(first | assumption | rfl);rfl)
      | ((with_reducible apply LW.mv);rfl;rfl)
      | ((with_reducible apply LW.fa);(exact rj.h);rfl;rfl)
      | ((with_reducible apply LW.ld);rfl;assumption;(repeat (first | exact wh | apply wj));(exact sr.h);rfl;rfl)
      | ((with_reducible apply LW.bin);rfl;rfl;rfl;rfl)
      | ((with_reducible apply LW.NV);rfl;(first | assumption | rfl);rfl;rfl)
      | ((with_reducible apply LW.Ph);rfl;(first | assumption | rfl);rfl;rfl)
      | ((with_reducible apply LW.as);rfl;rfl)
      | ((with_reducible apply LW.NM);rfl;assumption;(repeat (first | exact wh | apply wj));(exact sr.h);rfl;rfl;(repeat (first | ((with_reducible apply Nf.cons);rfl) | ((with_reducible apply Nf.nil);rfl))))
      | ((with_reducible apply LW.len);(exact wN.h);rfl;rfl)
      | ((with_reducible apply LW.O0);(exact wN.h);(exact Bg.h);rfl;rfl;assumption;assumption;rfl)
      | ((with_reducible apply LW.SI);rfl;rfl;rfl)
      | ((with_reducible apply LW.ext);rfl;rfl;rfl)
      | ((with_reducible apply LW.not);rfl;rfl)
      | ((with_reducible apply LW.neg);rfl;rfl)
      | ((with_reducible apply LW.Tf);rfl;(with_reducible_and_instances assumption);(first | ((with_reducible apply St.Cl);(with_reducible assumption);(with_reducible assumption)) | ((with_reducible apply St.zM);(with_reducible assumption);(with_reducible assumption);(repeat (first | exact wh | apply wj))));(exact sr.h);rfl;rfl)
      | ((with_reducible apply LW.Si);rfl;(with_reducible_and_instances assumption);(first | ((with_reducible apply St.Cl);(with_reducible assumption);(with_reducible assumption)) | ((with_reducible apply St.zM);(with_reducible assumption);(with_reducible assumption);(repeat (first | exact wh | apply wj))));(exact sr.h);rfl;rfl)
      | ((with_reducible apply LW.S5);rfl;(with_reducible_and_instances assumption);(first | ((with_reducible apply St.Cl);(with_reducible assumption);(with_reducible assumption)) | ((with_reducible apply St.zM);(with_reducible assumption);(with_reducible assumption);(repeat (first | exact wh | apply wj))));(exact sr.h);rfl;rfl;(repeat (first | ((with_reducible apply Nf.cons);rfl) | ((with_reducible apply Nf.nil);rfl))))
      | ((with_reducible apply LW.Sf);rfl;(with_reducible_and_instances assumption);(first | ((with_reducible apply St.Cl);(with_reducible assumption);(with_reducible assumption)) | ((with_reducible apply St.zM);(with_reducible assumption);(with_reducible assumption);(repeat (first | exact wh | apply wj))));(exact sr.h);rfl;rfl;(repeat (first | ((with_reducible apply Nf.cons);rfl) | ((with_reducible apply Nf.nil);rfl))))
      | ((with_reducible apply LW.sT a);rfl;assumption;(repeat (first | apply Ud.hd | apply Ud.tl));(exact sr.h);rfl;(repeat (first | ((with_reducible apply Nf.cons);rfl) | ((with_reducible apply Nf.nil);rfl)));rfl;rfl;rfl;(repeat (first | ((with_reducible apply Nf.cons);rfl) | ((with_reducible apply Nf.nil);rfl)));(clear a);intro w s a)
      | ((with_reducible apply LW.bT a);rfl;(repeat (first | ((with_reducible apply Nf.cons);rfl) | ((with_reducible apply Nf.nil);rfl)));assumption;rfl;(clear a);intro g w s a)
      | ((with_reducible apply LW.aT a);(repeat (first | ((with_reducible apply Nf.cons);rfl) | ((with_reducible apply Nf.nil);rfl)));assumption;rfl;(clear a);intro g w s a)
      | ((with_reducible apply LW.R1);(apply gK (by first | with_reducible exact h | exact h) a);(clear a);(intro y hy h a);(with_reducible apply LW.kL a);(intro t;apply t;(with_reducible exact hy));(case hargs=>(repeat (first | exact DQ.nil | (apply DQ.cons;rfl))));(case hd=>exact rfl);
          (repeat (first | exact rfl | exact pV (oi (by with_reducible assumption)) | ((with_reducible apply St.rB);(with_reducible assumption);(with_reducible assumption)) | ((with_reducible apply St.rM);(with_reducible assumption);(repeat (first | exact wh | apply wj));with_reducible fail_if_success (apply Qy)) | ((with_reducible apply St.L9);(with_reducible assumption);(with_reducible assumption);(repeat (first | exact wh | apply wj))) | ((with_reducible apply St.QP);(with_reducible assumption);(with_reducible assumption);(repeat (first | exact wh | apply wj)))));
          (clear a);(repeat ((with_reducible apply KX.ex);intro c));(first | ((with_reducible apply KX.f0);(with_reducible assumption)) | ((with_reducible apply KX.f1);(with_reducible assumption)));intro w s a)
      | ((with_reducible apply LW.R1);(apply gK (by first | with_reducible exact h | exact h) a);(clear a);(intro y hy h a);(with_reducible apply LW.kE a);(with_reducible assumption);(intro F u t;apply t;(with_reducible exact hy));(case hargs=>(repeat (first | exact DQ.nil | (apply DQ.cons;rfl))));(case hd=>exact rfl);(all_goals (try (with_reducible apply wm.st u)));
          (case hsel=>(repeat (first | exact E8.nil | ((apply E8.cons);(repeat (first | exact Ue | apply Uh))))));(case hR=>exact rfl);(case hn=>exact rfl);
          (repeat (first | exact rfl | exact pV (oi (by with_reducible assumption)) | ((with_reducible apply wm.rB);(with_reducible assumption);(with_reducible assumption)) | ((with_reducible apply wm.rM);(with_reducible assumption);(repeat (first | exact wh | apply wj));with_reducible fail_if_success (apply Qy)) | ((with_reducible apply wm.L9);(with_reducible assumption);(with_reducible assumption);(repeat (first | exact wh | apply wj));with_reducible fail_if_success (apply Qy)) | ((with_reducible apply wm.QP);(with_reducible assumption);(with_reducible assumption);(repeat (first | exact wh | apply wj)))));
          (intro F u);(clear a);(repeat ((with_reducible apply KX.ex);intro c));((with_reducible apply KX.fE);(with_reducible assumption));intro w s a)
      | ((with_reducible apply LW.R1);(with_reducible apply LW.kL a);(intro t;apply t;(with_reducible assumption));(case hargs=>(repeat (first | exact DQ.nil | (apply DQ.cons;rfl))));(case hd=>exact rfl);
          (repeat (first | exact rfl | exact pV (oi (by with_reducible assumption)) | ((with_reducible apply St.rB);(with_reducible assumption);(with_reducible assumption)) | ((with_reducible apply St.rM);(with_reducible assumption);(repeat (first | exact wh | apply wj));with_reducible fail_if_success (apply Qy)) | ((with_reducible apply St.L9);(with_reducible assumption);(with_reducible assumption);(repeat (first | exact wh | apply wj))) | ((with_reducible apply St.QP);(with_reducible assumption);(with_reducible assumption);(repeat (first | exact wh | apply wj)))));
          (clear a);(repeat ((with_reducible apply KX.ex);intro c));(first | ((with_reducible apply KX.f0);(with_reducible assumption)) | ((with_reducible apply KX.f1);(with_reducible assumption)));intro w s a)
      | ((with_reducible apply U5);(repeat (first | exact jZ | ((with_reducible apply Kept.c);(case h=>(first | ((with_reducible apply St.cA);(with_reducible assumption);(repeat (first | exact wh | apply wj));done) | ((with_reducible apply St.Cl);(with_reducible assumption);(with_reducible assumption)) | ((with_reducible apply St.zM);(with_reducible assumption);(with_reducible assumption);(repeat (first | exact wh | apply wj));done)))) | ((with_reducible apply Kept.w);(decide +kernel)))))
      | with_reducible apply LW.nil
      | ((with_reducible apply CW.nr);(repeat first | (with_reducible exact rfl) | (with_reducible apply zN)))
      | with_reducible apply CW.seq
      | with_reducible apply QF
      | with_reducible apply QN
      | with_reducible apply QI
      | with_reducible apply QD
      | with_reducible apply QB
      | with_reducible apply QA
      | ((with_reducible apply QO);(exact rfl))
      | ((with_reducible apply CW.UP);rfl;(with_reducible apply CW.region))
      | with_reducible apply CW.skip
      | with_reducible apply CW.exit
      | (with_reducible apply CW.ret)
      | ((with_reducible apply AW.nr);(repeat first | (with_reducible exact rfl) | (with_reducible apply zN)))
      | refine gA ?_
      | refine UZ ?_
      | ((with_reducible apply AW.Se);(first | ((apply AW.oN 0);(first | exact Nx.set _ _ | exact Nx.start _);rfl;(decide +kernel);(decide +kernel)) | ((apply AW.oN 1);(first | exact Nx.set _ _ | exact Nx.start _);rfl;(decide +kernel);(decide +kernel)) | ((apply AW.oN 2);(first | exact Nx.set _ _ | exact Nx.start _);rfl;(decide +kernel);(decide +kernel))))
      | ((fail_if_success (with_reducible apply LW.UX));(with_reducible apply LW.U2);rfl))
    exact a ()):B:=f fun _=>a
end
end Go.Kx
