import Derived.Test.YtfmfgnhbgcjajaaGreatGo
import Derived.Test.YtfmfgnhbgcjajaaGreatDat
namespace Go.Kx
open Go Go.RowKit
set_option linter.unusedVariables false
set_option linter.unusedSimpArgs false
section
variable {P:Program} {n:Nat} {Q:iZ} {e:Env} {w w0:World} {F0:List Nat} {A B:Prop} {α:Type}
theorem gc{y z:Option α}{r:α}{b:Bool}{c1 c2:Code}{x:Operand}(h:(bif b then y else z)=some r)(h1:b=true->y=some r->CW P n c1 Q e w)(h2:b=false->z=some r->CW P n c2 Q e w)(f:autoParam ((Unit->CW P n (.cond x c1 c2) Q e w)->B) go._auto_1)(hx:ev e x=.bool b:=by rfl):B:=f fun _=>ch h h1 h2 hx
theorem gB{y z:Option α}{r:α}{b:Bool}(h:(bif b then y else z)=some r)(h1:b=true->y=some r->A)(h2:b=false->z=some r->A)(f:autoParam ((Unit->A)->B) go._auto_1):B:=f fun _=>by
  cases b
  · exact h2 rfl h
  · exact h1 rfl h
theorem bH{y z:Option α}{r:α}{b:Bool}(h:(bif b then y else z)=some r)(h1:b=true->y=some r->A)(h2:b=false->z=some r->A):A:=by
  cases b
  · exact h2 rfl h
  · exact h1 rfl h
theorem AW.ux{ops:Array Oper}{fuel:Nat}{E:nY}{listed:Array Bool}{i d:Nat}{ty:TypeId}{pos:String}{aft:Array Edge}{g:Option (Nat×Bool)}{v:Value}{op:Op}(hn:listed[i]?=some false)(hi:ops[i]?=some ⟨some d,op,ty,pos,aft,g⟩)(hok:ib ops listed i=true)(hw:nH ops g e=true)(hd:Nat.ble (d+1) n=true)
    (hl:dP P (ev e) op v) (h:AW P n ops Q fuel E (listed.setIfInBounds i true) (iM e d v) w):AW P n ops Q (fuel+1) E listed e w:=AW.u hi hok hw hd hl h
theorem St.cA{L:List Item}{g:Nat}{ty:TypeId}{cs:List Value}(h:St w0 F0 w L)(hm:∃i:Nat,L[i]?=some (bx g ty cs)):w.heap[g]?=some (.cells cs.toArray ty (0,0)):=by
  obtain⟨i,hi⟩:=hm;exact St.cell (h:=h) hi
theorem jn{ops:Array Oper}{fuel:Nat}{E:nY}{listed:Array Bool}{j:Nat}{w':World}(h:AW P n ops Q fuel E (listed.setIfInBounds j true) e w')(k:Kept ops j E w w':=by repeat (first|exact jZ|(refine Kept.c (St.cA (by assumption) (by repeat (first|exact mM|apply mN))) ?_)|(refine jW ?_))):
    LW P n ops (fun x e' w2=>x=.normal/\Kept ops j E w w2/\AW P n ops Q fuel E (listed.setIfInBounds j true) e' w2) [] e w':=jN k h
theorem eo{m:List (Nat×Value)}{A:Prop}(h:En e m/\A):∃e',e=dK e' m/\A:=by
  obtain⟨e',he⟩:=h.1.out;exact⟨e',he,h.2⟩
theorem LW.bd{ops:Array Oper}{rest:List Oper}{d:Nat}{ty:TypeId}{pos:String}{aft:Array Edge}{t:TypeId}{parts:Array (Nat×Operand)}(vs:List (Nat×Value))(cs:Array Value)(h:LW P n ops Q rest (iM e d (.agg cs)) w)(hp:parts.toList.map (fun p=>(p.1,ev e p.2))=vs:=by exact rfl)(hb:P.built t vs=some cs:=by kernel_rfl)(hd:Nat.ble (d+1) n=true:=by exact rfl):
    LW P n ops Q (⟨some d,.build t parts,ty,pos,aft,none⟩::rest) e w:=LW.u (dP.build hp hb) hd h
theorem AW.tk{ops:Array Oper}{fuel:Nat}{E:nY}{listed:Array Bool}{d:Nat}{ty:TypeId}{pos:String}{aft:Array Edge}{g:Option (Nat×Bool)}{v:Value}{op:Op}{C:World->Prop}(i:Nat)(hi:ops[i]?=some ⟨some d,op,ty,pos,aft,g⟩)(hl:fU P (ev e) op C v)(hC:C w)(h:AW P n ops Q fuel ((i,C)::E) (listed.setIfInBounds i true) (iM e d v) w)
    (hok:ib ops listed i=true:=by kernel_rfl) (hw:nH ops g e=true:=by exact rfl) (hd:Nat.ble (d+1) n=true:=by exact rfl):AW P n ops Q (fuel+1) E listed e w:=AW.take hi hok hw hd hl hC h
theorem HD{w:World}:∀l:List Int,gp w (l.map (Value.int .i64)) [] l
  | []=>rfl
  | x::l=>⟨[.int .i64 x],l.map (Value.int .i64),[],[],rfl,rfl,⟨rfl,rfl⟩,HD l⟩
theorem LW.bi{ops:Array Oper}{rest:List Oper}{d:Nat}{ty:TypeId}{pos:String}{aft:Array Edge}{L:List Item}{t:TypeId}{len:Nat}{parts:Array (Nat×Operand)}(l:List Int)(hS:St w0 F0 w L)(h:∀(a:Option Addr) (c:Nat) (w':World),St w0 F0 w' (sl a c l::L)->Fr w w' []->LW P n ops Q rest (iM e d (.slice a l.length c)) w')
    (hp:parts.toList.map (fun p=>(p.1,ev e p.2))=l.zipIdx.map (fun p=>(p.2,Value.int .i64 p.1)):=by exact rfl) (hb:yp P t len (l.zipIdx.map fun p=>(p.2,Value.int .i64 p.1))=some (dv.ty Int,(l.map (Value.int .i64)).toArray):=by kernel_rfl) (hl:l.length=len:=by exact rfl) (hL:Nat.ble len 65536=true:=by exact rfl) (hd:Nat.ble (d+1) n=true:=by exact rfl) :
    LW P n ops Q (⟨some d,.buildSlice t len parts,ty,pos,aft,none⟩::rest) e w:=LW.wY hp hb hl (by subst hl;show(l.map (Value.int .i64)).toArray.size=l.length*1;simp) hL (fun w=>HD l) hS hd h
theorem LW.b0[dv α]{ops:Array Oper}{rest:List Oper}{d:Nat}{ty:TypeId}{pos:String}{aft:Array Edge}{L:List Item}{t:TypeId}{parts:Array (Nat×Operand)}(hS:St w0 F0 w L)(h:∀(a:Option Addr) (c:Nat) (w':World),St w0 F0 w' (sl a c ([]:List α)::L)->Fr w w' []->LW P n ops Q rest (iM e d (.slice a ([]:List α).length c)) w')
    (hp:parts.toList.map (fun p=>(p.1,ev e p.2))=[]:=by exact rfl) (hb:yp P t 0 []=some (dv.ty α, #[]):=by kernel_rfl) (hd:Nat.ble (d+1) n=true:=by exact rfl) :
    LW P n ops Q (⟨some d,.buildSlice t 0 parts,ty,pos,aft,none⟩::rest) e w:=LW.wY (l:=([]:List α)) hp hb rfl (by simp) rfl (fun w=>rfl) hS hd h
-- fused
section
variable {ops:Array Oper} {rest:List Oper} {fuel:Nat} {E:nY} {listed:Array Bool} {d:Nat} {ty:TypeId} {pos:String} {aft:Array Edge} {v:Value} {l:List (Nat×Value)} {L:List Item} {j:Nat}
theorem sU{E:Env}{t bt:TypeId}{x y:Operand}{a:Option Nat}{g o:Nat}{cs vs cs':List Value}{L':List Item}(hS:St w0 F0 w L)(i:Nat)(h:∀w':World,St w0 F0 w' L'->LW P n ops Q rest (dK e l) w')
    (f:autoParam ((Unit->LW P n ops Q (⟨none,.store t x y,ty,pos,aft,none⟩::rest) E w)->B) go._auto_1) (hE:E=dK e l:=by exact tR) (hx:iI l x=some (.pointer (some ⟨g,o,none⟩)):=by rfl) (hi:L[i]?=some (bx g bt cs):=by rfl) (ht:fK P t=some a:=by exact jr.h) (hy:iI l y=some v:=by rfl) (hv:Nf v.cells.toList vs:=by exact iT) (hm:vs.length=a.getD 1:=by rfl) (hl:Nat.ble (o+vs.length) cs.length=true:=by rfl) (h1:vs.all (·.oneCell')=true:=by rfl) (hc:Nf (x5 cs o vs) cs':=by exact iT) (hL:Nf (L.set i (bx g bt cs')) L':=by exact iT):B:=f fun _=>LW.st hS i h hE hx hi ht hy hv hm hl h1 hc hL
theorem xa{E:Env}{t:TypeId}{x:Operand}{cs:List Value}(hS:St w0 F0 w L)(h:∀(g:Nat) (w':World),St w0 F0 w' (bx g t cs::L)->LW P n ops Q rest (dK e ((d,.pointer (some ⟨g,0,none⟩))::l)) w')
    (f:autoParam ((Unit->LW P n ops Q (⟨some d,.box t x,ty,pos,aft,none⟩::rest) E w)->B) go._auto_1) (hE:E=dK e l:=by exact tR) (hx:iI l x=some v:=by rfl) (hv:Nf v.cells.toList cs:=by exact iT) (hd:Nat.ble (d+1) n=true:=by rfl):B:=f fun _=>LW.bo hS h hE hx hv hd
theorem gD{E:Env}{m:List (Nat×Value)}{c:Code}(ds:List Nat)(k:∀e',CW P n c Q (dK e' m) w)
    (f:autoParam ((Unit->CW P n c Q E w)->B) go._auto_1) (hE:E=dK e l:=by exact tR) (h:pJ l ds m:=by exact v5):B:=f fun _=>CW.fl ds k hE h
theorem CE{o:Oper}(i:Nat)(h:LW P n ops (fun x e' w'=>x=.normal/\Kept ops i E w w'/\AW P n ops Q fuel E (listed.setIfInBounds i true) e' w') [o] e w)
    (f:autoParam ((Unit->AW P n ops Q (fuel+1) E listed e w)->B) go._auto_1) (ho:ops[i]?=some o:=by rfl) (hr:Region.ready .any ops listed=[i]:=by kernel_rfl):B:=f fun _=>jO i h ho hr
theorem dW{id:Nat}{lo:List Oper}(h:AW P n lo.toArray Q lo.length [] (Array.replicate lo.length false) e w.drew)(hm:P.follows .mixedOrders=true:=by kernel_rfl):CW P n (.region id lo.toArray true) Q e w:=CW.draw hm h
theorem gR{id:Nat}{lo:List Oper}(h:AW P n lo.toArray Q lo.length [] (Array.replicate lo.length false) e w.drew)(f:autoParam ((Unit->CW P n (.region id lo.toArray true) Q e w)->B) go._auto_1)(hm:P.follows .mixedOrders=true:=by kernel_rfl):B:=f fun _=>CW.draw hm h
theorem fC{t:TypeId}{parts:Array (Nat×Operand)}(vs:List (Nat×Value))(cs:Array Value)(h:LW P n ops Q rest (iM e d (.agg cs)) w)(f:autoParam ((Unit->LW P n ops Q (⟨some d,.build t parts,ty,pos,aft,none⟩::rest) e w)->B) go._auto_1)(hp:parts.toList.map (fun p=>(p.1,ev e p.2))=vs:=by exact rfl)(hb:P.built t vs=some cs:=by kernel_rfl)(hd:Nat.ble (d+1) n=true:=by exact rfl):
    B:=f fun _=>LW.u (dP.build hp hb) hd h
end
-- end fused
theorem tt{t:Nat}:dJ P e w (.tmp t) (e t):=rfl
theorem Ra{t:Nat}{K:Value->Prop}(k:K (e t)):True/\∃v,ic P #[.tmp t] e w v/\K v:=⟨trivial,_,ic.one rfl,k⟩
theorem ry{r s:ResultVar}{u v:Value}{K:Value->Prop}(h:dJ P e w r u)(k:dJ P e w s v)(q:K (.tuple #[u,v])):∃v,ic P #[r,s] e w v/\K v:=⟨_,ic.two h k,q⟩
theorem Rc{r s:ResultVar}{u v:Value}{K:Value->Prop}(h:dJ P e w r u)(k:dJ P e w s v)(q:K (.tuple #[u,v])):True/\∃v,ic P #[r,s] e w v/\K v:=⟨trivial,_,ic.two h k,q⟩
end
section
variable {α:Type} [dv α] {w w0:World} {F0:List Nat}
theorem St.mc{a:Option Addr}{c k:Nat}{l:List α}{cs:List Value}{Z X R:List Item}(h:St w0 F0 w Z)(y:α)(is:List Nat)(m i:Nat)(hp:iU Z is=some X)(hi:X[m+i]?=some (hole α a c l k cs))(hM:∀(w:World) (G:List Nat),eI (X.take m) w G->dv.own w cs G y)
    (hn:oO is=true:=by exact rfl) (hR:Nf ((X.drop m).set i (sl a c (l.set k y))) R:=by exact iT):St w0 F0 w R:=by
  cases hR.eq;have h2:=h.pick is hp hn;rw[<- List.take_append_drop m X]at h2;exact h2.N2 i (by rw[List.getElem?_drop];exact hi) hM
end
abbrev qP(a0:Ad)(c0:Nat)(a1:Ad)(c1:Nat)(a2:Ad)(c2:Nat)(a3:Ad)(c3:Nat)(a4:Ad)(c4:Nat)(a5:Ad)(c5:Nat)(x:bh):List Value:=[vS a0 x.Rd.Rb.length c0,vS a1 x.own.length c1,vS a2 x.Re.length c2,vS a3 x.heap.ag.length c3,vI x.heap.gc.Rg,vI x.heap.gc.Rp,vI x.heap.gc.Rh,vS a4 x.heap.gc.da.length c4,vS a5 x.dc.length c5,vI x.Ro,vI x.Rn,vI x.db.cd,vI x.db.dg,vI x.db.du,vI x.dx,vI x.Rk]
abbrev qO(a0:Ad)(c0:Nat)(a1:Ad)(c1:Nat)(a2:Ad)(c2:Nat)(x:c6):List Value:=[vI x.Rs,vI x.so,vI x.box,vI x.Rt,vI x.dX,vI x.cd,vI x.Rm,vI x.ef,vI x.ee,.bool x.mark,vS a0 x.dp.length c0,vS a1 x.Ri.length c1,vS a2 x.Rf.length c2]
abbrev qC(a0:Ad)(c0:Nat)(a1:Ad)(c1:Nat)(a2:Ad)(c2:Nat)(a3:Ad)(c3:Nat)(a4:Ad)(c4:Nat)(a5:Ad)(c5:Nat)(x:dO):List Value:=[vS a0 x.py.Rd.Rb.length c0,vS a1 x.py.own.length c1,vS a2 x.py.Re.length c2,vS a3 x.py.heap.ag.length c3,vI x.py.heap.gc.Rg,vI x.py.heap.gc.Rp,vI x.py.heap.gc.Rh,vS a4 x.py.heap.gc.da.length c4,vS a5 x.py.dc.length c5,vI x.py.Ro,vI x.py.Rn,vI x.py.db.cd,vI x.py.db.dg,vI x.py.db.du,vI x.py.dx,vI x.py.Rk,vI x.me,vI x.Rj,vI x.dU]
abbrev qL(x:dH):List Value:=[vI x.so,vI x.a,vI x.b,vI x.c,vI x.d,vI x.e]
abbrev qE(x:eQ):List Value:=[vI x.so,vI x.py,vI x.dU,vI x.call.so,vI x.call.a,vI x.call.b,vI x.call.c,vI x.call.d,vI x.call.e]
abbrev qH(a0:Ad)(c0:Nat)(a1:Ad)(c1:Nat)(x:df):List Value:=[vS a0 x.ag.length c0,vI x.gc.Rg,vI x.gc.Rp,vI x.gc.Rh,vS a1 x.gc.da.length c1]
abbrev qB(a0:Ad)(c0:Nat)(a1:Ad)(c1:Nat)(x:eh):List Value:=[vS a0 x.Rd.Rb.length c0,vS a1 x.own.length c1,vI x.fA.cd,vI x.fA.dg,vI x.fA.du]
abbrev qT(x:eA):List Value:=[vI x.Rt,vI x.fW,vI x.nG,vI x.iH,vI x.so,vI x.kp]
abbrev uP(a0:Ad)(n0 c0:Nat)(a1:Ad)(n1 c1:Nat)(a2:Ad)(n2 c2:Nat)(a3:Ad)(n3 c3:Nat)(a4:Ad)(n4 c4:Nat)(a5:Ad)(n5 c5:Nat)(x:bh):Array Value:=#[vS a0 n0 c0,vS a1 n1 c1,vS a2 n2 c2,vS a3 n3 c3,vI x.heap.gc.Rg,vI x.heap.gc.Rp,vI x.heap.gc.Rh,vS a4 n4 c4,vS a5 n5 c5,vI x.Ro,vI x.Rn,vI x.db.cd,vI x.db.dg,vI x.db.du,vI x.dx,vI x.Rk]
abbrev uO(a0:Ad)(n0 c0:Nat)(a1:Ad)(n1 c1:Nat)(a2:Ad)(n2 c2:Nat)(x:c6):Array Value:=#[vI x.Rs,vI x.so,vI x.box,vI x.Rt,vI x.dX,vI x.cd,vI x.Rm,vI x.ef,vI x.ee,.bool x.mark,vS a0 n0 c0,vS a1 n1 c1,vS a2 n2 c2]
abbrev uL(x:dH):Array Value:=#[vI x.so,vI x.a,vI x.b,vI x.c,vI x.d,vI x.e]
abbrev uE(x:eQ):Array Value:=#[vI x.so,vI x.py,vI x.dU,vI x.call.so,vI x.call.a,vI x.call.b,vI x.call.c,vI x.call.d,vI x.call.e]
abbrev uH(a0:Ad)(n0 c0:Nat)(a1:Ad)(n1 c1:Nat)(x:df):Array Value:=#[vS a0 n0 c0,vI x.gc.Rg,vI x.gc.Rp,vI x.gc.Rh,vS a1 n1 c1]
abbrev uB(a0:Ad)(n0 c0:Nat)(a1:Ad)(n1 c1:Nat)(x:eh):Array Value:=#[vS a0 n0 c0,vS a1 n1 c1,vI x.fA.cd,vI x.fA.dg,vI x.fA.du]
abbrev uT(x:eA):Array Value:=#[vI x.Rt,vI x.fW,vI x.nG,vI x.iH,vI x.so,vI x.kp]
class Ct (P:Program) (f:FuncId) where
  {T:Prop}
  p:ua P f=true:=by kernel_rfl
  h:T
def KX(K G:Value->World->Prop)(A:Prop):Prop:=(Unit->A)->∀v w,K v w->G v w
theorem KX.ex{γ:Type}{K:γ->Value->World->Prop}{G:Value->World->Prop}{A:γ->Prop}(h:∀c,KX (K c) G (A c)):KX (fun v w=>∃c,K c v w) G (∀c,A c):=fun a v w ⟨c,hc⟩=>h c (fun _=>a () c) v w hc
inductive wZ (l:List (Nat×Value)):List Operand->List Value->Prop
  | nil:wZ l [] []
  | cons {x:Operand} {v:Value} {xs:List Operand} {vs:List Value} (h:iI l x=some v) (t:wZ l xs vs):wZ l (x::xs) (v::vs)
theorem wZ.eq{e:Env}{l:List (Nat×Value)}:∀{xs:List Operand} {vs:List Value},wZ l xs vs->xs.map (ev (dK e l))=vs
  | _,_,.nil=>rfl
  | _,_,.cons h t=>by rw[List.map_cons,fv h,t.eq]
inductive Ud (g:Nat) (bt:TypeId) (cs cs':List Value):List Item->List Item->Prop
  | hd {L:List Item}:Ud g bt cs cs' (bx g bt cs::L) (bx g bt cs'::L)
  | tl {x:Item} {L L':List Item} (h:Ud g bt cs cs' L L'):Ud g bt cs cs' (x::L) (x::L')
theorem Ud.ix{g:Nat}{bt:TypeId}{cs cs':List Value}:∀{L L':List Item},Ud g bt cs cs' L L'->∃i:Nat,L[i]?=some (bx g bt cs)/\L'=L.set i (bx g bt cs')
  | _,_,.hd=>⟨0,rfl,rfl⟩
  | _,_,.tl h=>by
    obtain⟨i,h1,h2⟩:=h.ix;exact⟨i+1,h1,by rw[h2];rfl⟩
inductive x8 (L:List Item):List Nat->List Item->Prop
  | nil:x8 L [] []
  | cons {i:Nat} {x:Item} {is:List Nat} {M:List Item} (h:L[i]?=some x) (t:x8 L is M):x8 L (i::is) (x::M)
theorem x8.eq{L:List Item}:∀{is:List Nat} {M:List Item},x8 L is M->iU L is=some M
  | _,_,.nil=>rfl
  | _,_,.cons h t=>by unfold iU;rw[h,t.eq]
theorem MT{L:List Item}{x:Item}(h:∃i:Nat,L[i]?=some x):∃i:Nat,L[i]?=some x:=h
theorem Qd{L:List Item}{x:Item}:(x::L)[0]?=some x:=rfl
theorem Qj{L:List Item}{x y:Item}{i:Nat}(h:L[i]?=some x):(y::L)[i+1]?=some x:=h
section
variable {P:Program} {n:Nat} {Q:iZ} {e:Env} {l:List (Nat×Value)} {w w0:World} {F0:List Nat} {L L':List Item} {ops:Array Oper} {rest:List Oper} {ty:TypeId} {pos:String} {aft:Array Edge} {d:Nat} {v:Value}
theorem St.QU{M:List Item}{is:List Nat}(h:St w0 F0 w L)(hs:x8 L is M)(hn:oO is=true):St w0 F0 w M:=h.pick is hs.eq hn
theorem St.rM{α:Type}[dv α]{a:Option Addr}{c:Nat}{m:List α}(h:St w0 F0 w L)(hm:∃i:Nat,L[i]?=some (sl a c m)):dZ (eU w []) w a c m:=by
  obtain⟨i,hi⟩:=hm;exact h.rI i hi
theorem St.HI{α:Type}[dv α]{a:Option Addr}{c:Nat}{m:List α}{w1:World}{F:List Nat}(h:St w0 F0 w L)(hr:dZ (fun b=>b∈F) w1 a c m)(hm:∃i:Nat,L[i]?=some (fz w1 F)):dZ (eU w []) w a c m:=by
  obtain⟨i,hi⟩:=hm;exact h.rZ i hi hr
theorem St.MQ{α:Type}[dv α]{a:Option Addr}{c:Nat}{m:List α}{w1:World}{F:List Nat}(h:St w0 F0 w L)(hr:ku w1 a c F m)(hm:∃i:Nat,L[i]?=some (fz w1 F)):dZ (eU w []) w a c m:=h.HI hr.fu hm
theorem KX.f0{G:Value->World->Prop}{u:Value}{A:World->Prop}(hS:St w0 F0 w L)(k:∀w',St w0 F0 w' L->(Unit->A w')->G u w'):KX (fun v w'=>v=u/\St w [] w' []) G (∀w',St w0 F0 w' L->A w'):=fun a v w' ⟨h1,h2⟩=>by
  subst h1
  have h3:St w0 F0 w' L:=by simpa using hS.add h2
  exact k w' h3 fun _=>a () w' h3
theorem KX.f1{G:Value->World->Prop}{u:Value}{M:List Item}{A:World->Prop}(hS:St w0 F0 w L)(k:∀w',St w0 F0 w' (M++L)->(Unit->A w')->G u w'):KX (fun v w'=>v=u/\St w [] w' M) G (∀w',St w0 F0 w' (M++L)->A w'):=fun a v w' ⟨h1,h2⟩=>by
  subst h1;exact k w' (hS.add h2) fun _=>a () w' (hS.add h2)
theorem gK{α β:Type}{o:Option α}{g:α->Option β}{r:β}{A:α->Prop}{G:Prop}(h:o.bind g=some r)(a:Unit->∀x,o=some x->g x=some r->A x)(k:∀x,o=some x->g x=some r->(Unit->A x)->G):G:=by
  obtain⟨x,h1,h2⟩:=Option.bind_eq_some_iff.1 h;exact k x h1 h2 fun _=>a () x h1 h2
theorem LW.O9{f:FuncId}{as:Array Operand}{ts:Array TypeId}(h:LW P n ops Q (⟨some d,.call { callee:=.value (.func f),args:=as,argTypes:=ts },ty,pos,aft,none⟩::rest) e w):LW P n ops Q (⟨some d,.call { callee:=.value (.func f),args:=as,argTypes:=ts },ty,pos,aft,none⟩::rest) e w:=h
theorem LW.kL{f:FuncId}[c:Ct P f]{as:Array Operand}{ts:Array TypeId}{al:List Value}{K:Value->World->Prop}{A:Prop}(a:Unit->A)(q:c.T->dj P f al.toArray w K)(x:KX K (fun v w'=>LW P n ops Q rest (dK e ((d,v)::l)) w') A)(hd:Nat.ble (d+1) n=true)(hargs:wZ l as.toList al):
    LW P n ops Q (⟨some d,.call { callee:=.value (.func f),args:=as,argTypes:=ts },ty,pos,aft,none⟩::rest) (dK e l) w:=LW.cl (q c.h) (fun v w' hk=>x a v w' hk) c.p hd hargs.eq
theorem LW.sT{t bt:TypeId}{x y:Operand}{av:Option Nat}{g o:Nat}{cs vs cs':List Value}{A:World->Prop}(a:Unit->∀w':World,St w0 F0 w' L'->A w')
    (hx:iI l x=some (.pointer (some ⟨g,o,none⟩))) (hS:St w0 F0 w L) (hU:Ud g bt cs cs' L L') (ht:fK P t=some av) (hy:iI l y=some v) (hv:Nf v.cells.toList vs) (hm:vs.length=av.getD 1) (hl:Nat.ble (o+vs.length) cs.length=true) (h1:vs.all (·.oneCell')=true) (hc:Nf (x5 cs o vs) cs')
    (k:∀w':World,St w0 F0 w' L'->(Unit->A w')->LW P n ops Q rest (dK e l) w'):LW P n ops Q (⟨none,.store t x y,ty,pos,aft,none⟩::rest) (dK e l) w:=by
  obtain⟨i,h2,rfl⟩:=hU.ix;cases hv.eq;cases hc.eq;exact LW.Qe hS i h2 ht (fv hx) (by rw[fv hy]) hm hl h1 fun w' hS' _=>k w' hS' fun _=>a () w' hS'
theorem LW.bT{t:TypeId}{x:Operand}{cs:List Value}{A:Nat->World->Prop}(a:Unit->∀(g:Nat) (w':World),St w0 F0 w' (bx g t cs::L)->A g w')(hx:iI l x=some v)(hv:Nf v.cells.toList cs)(hS:St w0 F0 w L)(hd:Nat.ble (d+1) n=true)
    (k:∀(g:Nat) (w':World),St w0 F0 w' (bx g t cs::L)->(Unit->A g w')->LW P n ops Q rest (dK e ((d,.pointer (some ⟨g,0,none⟩))::l)) w'):LW P n ops Q (⟨some d,.box t x,ty,pos,aft,none⟩::rest) (dK e l) w:=by
  cases hv.eq;exact LW.box (by rw[fv hx]) hS hd fun g w' hS' _=>k g w' hS' fun _=>a () g w' hS'
theorem LW.aT{t:TypeId}{cs:List Value}{A:Nat->World->Prop}[z:uI P t](a:Unit->∀(g:Nat) (w':World),St w0 F0 w' (bx g t cs::L)->A g w')(hv:Nf z.z.cells.toList cs)(hS:St w0 F0 w L)(hd:Nat.ble (d+1) n=true)
    (k:∀(g:Nat) (w':World),St w0 F0 w' (bx g t cs::L)->(Unit->A g w')->LW P n ops Q rest (dK e ((d,.pointer (some ⟨g,0,none⟩))::l)) w'):LW P n ops Q (⟨some d,.alloc t,ty,pos,aft,none⟩::rest) (dK e l) w:=by
  cases hv.eq;exact LW.alloc z.h hS hd fun g w' hS' _=>k g w' hS' fun _=>a () g w' hS'
theorem ic.at{rs:Array ResultVar}(h:ic P rs e w v):ic P rs e w v:=h
theorem dJ.at{r:ResultVar}(h:dJ P e w r v):dJ P e w r v:=h
theorem dJ.bM{a T m g:Nat}{bt:TypeId}{cs:List Value}(ha:e a=.pointer (some ⟨g,0,none⟩))(hS:St w0 F0 w L)(hi:∃i:Nat,L[i]?=some (bx g bt cs))(ht:fK P T=some (some m))(hm:cs.length=m):dJ P e w (.cell a T) (.agg cs.toArray):=by
  obtain⟨i,hi⟩:=hi;exact .b hS i hi ht ha hm
theorem dJ.cM{a T g:Nat}{bt:TypeId}{cs:List Value}(ha:e a=.pointer (some ⟨g,0,none⟩))(hS:St w0 F0 w L)(hi:∃i:Nat,L[i]?=some (bx g bt cs))(ht:fK P T=some none)(hv:wG cs 0=some v):dJ P e w (.cell a T) v:=by
  obtain⟨i,hi⟩:=hi;exact .b1 hS i hi ht ha hv
section
variable {fuel:Nat} {E:nY} {listed:Array Bool} {i b:Nat}
theorem St.vm{b:Nat}(h:St w0 F0 w L)(hb:eU w0 F0 b):w.heap[b]?=w0.heap[b]?:=h.same b hb.1 hb.2
theorem St.zM{b:Nat}{w1:World}{F:List Nat}(h:St w0 F0 w L)(hb:b∈F)(hi:∃i:Nat,L[i]?=some (fz w1 F)):w.heap[b]?=w1.heap[b]?:=by
  obtain⟨i,hi⟩:=hi;exact h.zC i hi hb
theorem Q8{j:Nat}{w':World}(k:Kept ops j E w w')(h:AW P n ops Q fuel E (listed.setIfInBounds j true) e w'):
    LW P n ops (fun x e' w2=>x=.normal/\Kept ops j E w w2/\AW P n ops Q fuel E (listed.setIfInBounds j true) e' w2) [] e w':=jN k h
theorem AW.oN(k:Nat){dd:Option Tmp}{op:Op}{g:Option (Nat×Bool)}(hx:Nx listed b)(hi:ops[b+k]?=some ⟨dd,op,ty,pos,aft,g⟩)(hs:KO ops listed (b+k)=true)(hr:(Region.ready .any ops listed==[b+k])=true)
    (h:LW P n ops (fun x e' w'=>x=.normal/\Kept ops (b+k) E w w'/\AW P n ops Q fuel E (listed.setIfInBounds (b+k) true) e' w') [⟨dd,op,ty,pos,aft,g⟩] e w):AW P n ops Q (fuel+1) E listed e w:=AW.one (by simpa using hr) ⟨_,hi,h⟩
theorem jP(i:Nat){dd:Option Tmp}{op:Op}{g:Option (Nat×Bool)}(h:LW P n ops (fun x e' w'=>x=.normal/\Kept ops i E w w'/\AW P n ops Q fuel E (listed.setIfInBounds i true) e' w') [⟨dd,op,ty,pos,aft,g⟩] e w)
    (ho:ops[i]?=some ⟨dd,op,ty,pos,aft,g⟩:=by rfl) (hr:Region.ready .any ops listed=[i]:=by kernel_rfl):AW P n ops Q (fuel+1) E listed e w:=AW.one hr ⟨_,ho,h⟩
theorem oA{i:Nat}{dd:Option Tmp}{op:Op}{g:Option (Nat×Bool)}{R:iZ}(h:LW P n ops R [⟨dd,op,ty,pos,aft,g⟩] e w)(ho:ops[i]?=some ⟨dd,op,ty,pos,aft,g⟩:=by rfl):∃o,ops[i]?=some o/\LW P n ops R [o] e w:=⟨_,ho,h⟩
end
section
variable {t:TypeId} {x:Operand} {b O k m:Nat} {cs vs:List Value} {w1:World} {fuel:Nat} {E:nY} {listed:Array Bool} {i:Nat}
theorem LW.Py(hx:iI l x=some (.pointer (some ⟨b,O,none⟩)))(hk:∀(j:Nat) (u:Value),cs[j]?=some u->w1.cell? ⟨b,O+j,none⟩=some u)(hb:w.heap[b]?=w1.heap[b]?)(ht:fK P t=some none)(hv:cs[0]?=some v)(hd:Nat.ble (d+1) n=true)
    (h:LW P n ops Q rest (dK e ((d,v)::l)) w):LW P n ops Q (⟨some d,.load t x,ty,pos,aft,none⟩::rest) (dK e l) w:=LW.l (fU.iL w1 ht (fv hx) (hk 0 v hv)) hb hd h
theorem LW.OE(hx:iI l x=some (.pointer (some ⟨b,O+k,none⟩)))(hk:∀(j:Nat) (u:Value),cs[j]?=some u->w1.cell? ⟨b,O+j,none⟩=some u)(hb:w.heap[b]?=w1.heap[b]?)(ht:fK P t=some none)(hv:cs[k]?=some v)(hd:Nat.ble (d+1) n=true)
    (h:LW P n ops Q rest (dK e ((d,v)::l)) w):LW P n ops Q (⟨some d,.load t x,ty,pos,aft,none⟩::rest) (dK e l) w:=LW.l (fU.iL w1 ht (fv hx) (hk k v hv)) hb hd h
theorem zv(hk:∀(j:Nat) (u:Value),cs[j]?=some u->w1.cell? ⟨b,O+j,none⟩=some u):∀(j:Nat) (u:Value),(rG cs k m)[j]?=some u->w1.cell? ⟨b,O+k+j,none⟩=some u:=fun j u hu=>by
  rw[Nat.add_assoc];exact hk _ _ (zn _ _ _ _ _ hu)
theorem LW.OB(hx:iI l x=some (.pointer (some ⟨b,O,none⟩)))(hk:∀(j:Nat) (u:Value),cs[j]?=some u->w1.cell? ⟨b,O+j,none⟩=some u)(hb:w.heap[b]?=w1.heap[b]?)(ht:fK P t=some (some m))(hl:Nat.ble (0+m) cs.length=true)(hd:Nat.ble (d+1) n=true)(hn:Nf (rG cs 0 m) vs)
    (h:LW P n ops Q rest (dK e ((d,.agg vs.toArray)::l)) w):LW P n ops Q (⟨some d,.load t x,ty,pos,aft,none⟩::rest) (dK e l) w:=by
  cases hn.eq;exact LW.l (fU.xG w1 ht (fv hx) (tV _ _ _ (Nat.le_of_ble_eq_true hl)) (zv (k:=0) hk)) hb hd h
theorem LW.Pn(hx:iI l x=some (.pointer (some ⟨b,O+k,none⟩)))(hk:∀(j:Nat) (u:Value),cs[j]?=some u->w1.cell? ⟨b,O+j,none⟩=some u)(hb:w.heap[b]?=w1.heap[b]?)(ht:fK P t=some (some m))(hl:Nat.ble (k+m) cs.length=true)(hd:Nat.ble (d+1) n=true)(hn:Nf (rG cs k m) vs)
    (h:LW P n ops Q rest (dK e ((d,.agg vs.toArray)::l)) w):LW P n ops Q (⟨some d,.load t x,ty,pos,aft,none⟩::rest) (dK e l) w:=by
  cases hn.eq;exact LW.l (fU.xG w1 ht (fv hx) (tV _ _ _ (Nat.le_of_ble_eq_true hl)) (zv hk)) hb hd h
theorem hZ.Py(hx:iI l x=some (.pointer (some ⟨b,O,none⟩)))(hk:∀(j:Nat) (u:Value),cs[j]?=some u->w1.cell? ⟨b,O+j,none⟩=some u)(hb:w.heap[b]?=w1.heap[b]?)(ht:fK P t=some none)(hv:cs[0]?=some v)(hd:Nat.ble (d+1) n=true)(hok:ib ops listed i=true)
    (h:AW P n ops Q fuel ((i,fun w=>w.heap[b]?=w1.heap[b]?)::E) (listed.setIfInBounds i true) (dK e ((d,v)::l)) w):hZ P n ops Q fuel E listed i d (.load t x) (dK e l) w:=⟨hok,hd,v,.inr ⟨_,fU.iL w1 ht (fv hx) (hk 0 v hv),hb,h⟩⟩
theorem hZ.OE(hx:iI l x=some (.pointer (some ⟨b,O+k,none⟩)))(hk:∀(j:Nat) (u:Value),cs[j]?=some u->w1.cell? ⟨b,O+j,none⟩=some u)(hb:w.heap[b]?=w1.heap[b]?)(ht:fK P t=some none)(hv:cs[k]?=some v)(hd:Nat.ble (d+1) n=true)(hok:ib ops listed i=true)
    (h:AW P n ops Q fuel ((i,fun w=>w.heap[b]?=w1.heap[b]?)::E) (listed.setIfInBounds i true) (dK e ((d,v)::l)) w):hZ P n ops Q fuel E listed i d (.load t x) (dK e l) w:=⟨hok,hd,v,.inr ⟨_,fU.iL w1 ht (fv hx) (hk k v hv),hb,h⟩⟩
theorem hZ.OB(hx:iI l x=some (.pointer (some ⟨b,O,none⟩)))(hk:∀(j:Nat) (u:Value),cs[j]?=some u->w1.cell? ⟨b,O+j,none⟩=some u)(hb:w.heap[b]?=w1.heap[b]?)(ht:fK P t=some (some m))(hl:Nat.ble (0+m) cs.length=true)(hd:Nat.ble (d+1) n=true)(hn:Nf (rG cs 0 m) vs)(hok:ib ops listed i=true)
    (h:AW P n ops Q fuel ((i,fun w=>w.heap[b]?=w1.heap[b]?)::E) (listed.setIfInBounds i true) (dK e ((d,.agg vs.toArray)::l)) w):hZ P n ops Q fuel E listed i d (.load t x) (dK e l) w:=by
  cases hn.eq;exact⟨hok,hd,_,.inr ⟨_,fU.xG w1 ht (fv hx) (tV _ _ _ (Nat.le_of_ble_eq_true hl)) (zv (k:=0) hk),hb,h⟩⟩
theorem hZ.Pn(hx:iI l x=some (.pointer (some ⟨b,O+k,none⟩)))(hk:∀(j:Nat) (u:Value),cs[j]?=some u->w1.cell? ⟨b,O+j,none⟩=some u)(hb:w.heap[b]?=w1.heap[b]?)(ht:fK P t=some (some m))(hl:Nat.ble (k+m) cs.length=true)(hd:Nat.ble (d+1) n=true)(hn:Nf (rG cs k m) vs)(hok:ib ops listed i=true)
    (h:AW P n ops Q fuel ((i,fun w=>w.heap[b]?=w1.heap[b]?)::E) (listed.setIfInBounds i true) (dK e ((d,.agg vs.toArray)::l)) w):hZ P n ops Q fuel E listed i d (.load t x) (dK e l) w:=by
  cases hn.eq;exact⟨hok,hd,_,.inr ⟨_,fU.xG w1 ht (fv hx) (tV _ _ _ (Nat.le_of_ble_eq_true hl)) (zv hk),hb,h⟩⟩
theorem Hb{A B:Prop}(a:A)(f:(Unit->A)->B:=by
    intro a
    (first
      | ((with_reducible apply hZ.Py);rfl;(with_reducible_and_instances assumption);(first|((with_reducible apply St.vm);(with_reducible assumption);(with_reducible assumption))|((with_reducible apply St.zM);(with_reducible assumption);(with_reducible assumption);(repeat (first|exact mM|apply mN))));(exact jr.h);rfl;rfl;(decide +kernel))
      | ((with_reducible apply hZ.OE);rfl;(with_reducible_and_instances assumption);(first|((with_reducible apply St.vm);(with_reducible assumption);(with_reducible assumption))|((with_reducible apply St.zM);(with_reducible assumption);(with_reducible assumption);(repeat (first|exact mM|apply mN))));(exact jr.h);rfl;rfl;(decide +kernel))
      | ((with_reducible apply hZ.OB);rfl;(with_reducible_and_instances assumption);(first|((with_reducible apply St.vm);(with_reducible assumption);(with_reducible assumption))|((with_reducible apply St.zM);(with_reducible assumption);(with_reducible assumption);(repeat (first|exact mM|apply mN))));(exact jr.h);rfl;rfl;(exact iT);(decide +kernel))
      | ((with_reducible apply hZ.Pn);rfl;(with_reducible_and_instances assumption);(first|((with_reducible apply St.vm);(with_reducible assumption);(with_reducible assumption))|((with_reducible apply St.zM);(with_reducible assumption);(with_reducible assumption);(repeat (first|exact mM|apply mN))));(exact jr.h);rfl;rfl;(exact iT);(decide +kernel)))
    exact a ()):B:=f fun _=>a
theorem QS{A B:Prop}(a:A)(f:(Unit->A)->B:=by
    intro a
    with_reducible apply AW.Ow
    (first
      | ((apply AW.gN 0);(first|exact Nx.set _ _|exact Nx.start _);rfl;rfl;refine Hb ?_)
      | ((apply AW.gY 0);(first|exact Nx.set _ _|exact Nx.start _);rfl;rfl;rfl;rfl;(first|assumption|rfl);refine Hb ?_)
      | ((apply AW.gN 1);(first|exact Nx.set _ _|exact Nx.start _);rfl;(decide +kernel);refine Hb ?_)
      | ((apply AW.gY 1);(first|exact Nx.set _ _|exact Nx.start _);rfl;(decide +kernel);rfl;rfl;(first|assumption|rfl);refine Hb ?_)
      | ((apply AW.gN 2);(first|exact Nx.set _ _|exact Nx.start _);rfl;(decide +kernel);refine Hb ?_)
      | ((apply AW.gY 2);(first|exact Nx.set _ _|exact Nx.start _);rfl;(decide +kernel);rfl;rfl;(first|assumption|rfl);refine Hb ?_))
    exact a ()):B:=f fun _=>a
end
def Bg:List Item->Nat->List Nat->List Nat
  | [],_,_=>[]
  | _::L,j,is=>bif is.any (Nat.beq j)then Bg L (j+1) is else j::Bg L (j+1) is
theorem Cf{L R:List Item}{js:List Nat}:∀{is:List Nat} {M:List Item},iU L is=some M->iU L js=some R->iU L (is++js)=some (M++R)
  | [],_,h,k=>by cases h;exact k
  | i::is,M,h,k=>by
    unfold iU at h;split at h
    · rename_i x m h1 h2;cases h;rw[List.cons_append];unfold iU;rw[h1,Cf h2 k];rfl
    · cases h
theorem LW.kE{f:FuncId}[c:Ct P f]{as:Array Operand}{ts:Array TypeId}{al:List Value}{K:List Nat->Value->World->Prop}{A:Prop}{M R:List Item}{is:List Nat}(a:Unit->A)(hS:St w0 F0 w L)
    (q:∀F,mQ w0 F0 w M R F->c.T->dj P f al.toArray w (K F)) (x:∀F,mQ w0 F0 w M R F->KX (K F) (fun v w'=>LW P n ops Q rest (dK e ((d,v)::l)) w') A) (hd:Nat.ble (d+1) n=true) (hargs:wZ l as.toList al)
    (hsel:x8 L is M) (hR:iU L (Bg L 0 is)=some R) (hn:oO (is++Bg L 0 is)=true) :
    LW P n ops Q (⟨some d,.call { callee:=.value (.func f),args:=as,argTypes:=ts },ty,pos,aft,none⟩::rest) (dK e l) w:=by
  obtain⟨F,hL⟩:=(hS.pick (is++Bg L 0 is) (Cf hsel.eq hR) hn).Ov;exact LW.cl (q F hL c.h) (fun v w' hk=>x F hL a v w' hk) c.p hd hargs.eq
theorem KX.fE{M M' R:List Item}{F:List Nat}{G:Value->World->Prop}{u:Value}{A:World->Prop}(hL:mQ w0 F0 w M R F)(k:∀w',St w0 F0 w' (M'++R)->(Unit->A w')->G u w'):KX (fun v w'=>v=u/\St w F w' M') G (∀w',St w0 F0 w' (M'++R)->A w'):=fun a v w' ⟨h1,h2⟩=>by
  subst h1;exact k w' (hL.back _ _ h2) fun _=>a () w' (hL.back _ _ h2)
theorem mQ.rM{α:Type}[dv α]{M R:List Item}{F:List Nat}{a:Option Addr}{c:Nat}{m:List α}(h:mQ w0 F0 w M R F)(hm:∃i:Nat,R[i]?=some (sl a c m)):dZ (eU w F) w a c m:=by
  obtain⟨i,hi⟩:=hm;exact h.rI i hi
theorem mQ.HI{α:Type}[dv α]{M R:List Item}{F Fz:List Nat}{w1:World}{a:Option Addr}{c:Nat}{m:List α}(h:mQ w0 F0 w M R F)(hr:dZ (fun b=>b∈Fz) w1 a c m)(hm:∃i:Nat,R[i]?=some (fz w1 Fz)):dZ (eU w F) w a c m:=by
  obtain⟨i,hi⟩:=hm;exact h.rZ i hi hr
theorem mQ.MQ{α:Type}[dv α]{M R:List Item}{F Fz:List Nat}{w1:World}{a:Option Addr}{c:Nat}{m:List α}(h:mQ w0 F0 w M R F)(hr:ku w1 a c Fz m)(hm:∃i:Nat,R[i]?=some (fz w1 Fz)):dZ (eU w F) w a c m:=h.HI hr.fu hm
theorem rt{B:Prop}(f:B:=by
    refine go ?_
    first|cases h|skip
    repeat' (first
      | exact trivial
      | ((with_reducible apply ic.at);(first|apply ic.one|apply ic.two|apply ic.three|apply ic.four|exact ic.zero))
      | ((with_reducible apply dJ.at);(first|exact dJ.t rfl|((apply dJ.bM);(exact rfl);(with_reducible assumption);(repeat (first|exact mM|apply mN));(exact jr.h);(exact rfl))|((apply dJ.cM);(exact rfl);(with_reducible assumption);(repeat (first|exact mM|apply mN));(exact jr.h);(exact rfl))))
      | ((with_reducible apply St.QU);(with_reducible assumption);(repeat (first|exact x8.nil|((apply x8.cons);(repeat (first|exact Qd|apply Qj)))));(exact rfl))
      | apply And.intro
      | apply Exists.intro
      | exact rfl)):B:=f
theorem LW.QZ{dd:Option Tmp}{op:Op}{g:Option (Nat×Bool)}(h:LW P n ops Q (⟨dd,op,ty,pos,aft,g⟩::rest) e w):LW P n ops Q (⟨dd,op,ty,pos,aft,g⟩::rest) e w:=h
theorem LW.Q9{r:List Oper}{dd:Option Tmp}{op:Op}{g:Option (Nat×Bool)}(hr:r=⟨dd,op,ty,pos,aft,g⟩::rest)(h:LW P n ops Q (⟨dd,op,ty,pos,aft,g⟩::rest) e w):LW P n ops Q r e w:=by subst hr;exact h
theorem CW.QN{id:Nat}{lo:List Oper}(hg:lo.all (fun o=>o.guard.isNone)=true)(h:CW P n (.region id lo.toArray false) Q e w):CW P n (.region id lo.toArray false) Q e w:=h
theorem T{A B:Prop}(a:A)(f:(Unit->A)->B:=by
    intro a
    repeat (first
      | ((with_reducible apply CW.nr);(repeat first|(with_reducible exact rfl)|(with_reducible apply yr)))
      | with_reducible apply CW.seq
      | with_reducible apply MP
      | with_reducible apply Mw
      | with_reducible apply MW
      | with_reducible apply Ms
      | with_reducible apply MU
      | with_reducible apply MM
      | ((with_reducible apply Mt);(exact rfl))
      | with_reducible apply CW.region
      | with_reducible apply CW.skip
      | with_reducible apply CW.block
      | with_reducible apply CW.exit
      | (with_reducible apply CW.ret))
    repeat (first
      | ((with_reducible apply LW.nr);(repeat first|(with_reducible exact rfl)|(with_reducible apply yr)))
      | ((with_reducible apply LW.yes);rfl;rfl;(first|assumption|rfl))
      | ((with_reducible apply LW.no);rfl;rfl;(first|assumption|rfl);rfl)
      | ((with_reducible apply LW.mv);rfl;rfl)
      | ((with_reducible apply LW.fa);(exact gP.h);rfl;rfl)
      | ((with_reducible apply LW.ld);rfl;assumption;(repeat (first|exact mM|apply mN));(exact jr.h);rfl;rfl)
      | ((with_reducible apply LW.bin);rfl;rfl;rfl;rfl)
      | ((with_reducible apply LW.J0);rfl;(first|assumption|rfl);rfl;rfl)
      | ((with_reducible apply LW.JI);rfl;(first|assumption|rfl);rfl;rfl)
      | ((with_reducible apply LW.as);rfl;rfl)
      | ((with_reducible apply LW.Lc);rfl;assumption;(repeat (first|exact mM|apply mN));(exact jr.h);rfl;rfl;(exact iT))
      | ((with_reducible apply LW.len);(exact sd.h);rfl;rfl)
      | ((with_reducible apply LW.K6);(exact sd.h);(exact u5.h);rfl;rfl;assumption;assumption;rfl)
      | ((with_reducible apply LW.O2);rfl;rfl;rfl)
      | ((with_reducible apply LW.ext);rfl;rfl;rfl)
      | ((with_reducible apply LW.not);rfl;rfl)
      | ((with_reducible apply LW.neg);rfl;rfl)
      | ((with_reducible apply LW.Py);rfl;(with_reducible_and_instances assumption);(first|((with_reducible apply St.vm);(with_reducible assumption);(with_reducible assumption))|((with_reducible apply St.zM);(with_reducible assumption);(with_reducible assumption);(repeat (first|exact mM|apply mN))));(exact jr.h);rfl;rfl)
      | ((with_reducible apply LW.OE);rfl;(with_reducible_and_instances assumption);(first|((with_reducible apply St.vm);(with_reducible assumption);(with_reducible assumption))|((with_reducible apply St.zM);(with_reducible assumption);(with_reducible assumption);(repeat (first|exact mM|apply mN))));(exact jr.h);rfl;rfl)
      | ((with_reducible apply LW.OB);rfl;(with_reducible_and_instances assumption);(first|((with_reducible apply St.vm);(with_reducible assumption);(with_reducible assumption))|((with_reducible apply St.zM);(with_reducible assumption);(with_reducible assumption);(repeat (first|exact mM|apply mN))));(exact jr.h);rfl;rfl;(exact iT))
      | ((with_reducible apply LW.Pn);rfl;(with_reducible_and_instances assumption);(first|((with_reducible apply St.vm);(with_reducible assumption);(with_reducible assumption))|((with_reducible apply St.zM);(with_reducible assumption);(with_reducible assumption);(repeat (first|exact mM|apply mN))));(exact jr.h);rfl;rfl;(exact iT))
      | ((with_reducible apply LW.sT a);rfl;assumption;(repeat (first|apply Ud.hd|apply Ud.tl));(exact jr.h);rfl;(exact iT);rfl;rfl;rfl;(exact iT);(clear a);intro w s a)
      | ((with_reducible apply LW.bT a);rfl;(exact iT);assumption;rfl;(clear a);intro g w s a)
      | ((with_reducible apply LW.aT a);(exact iT);assumption;rfl;(clear a);intro g w s a)
      | ((with_reducible apply LW.O9);(apply gK (by first|with_reducible exact h|exact h) a);(clear a);(intro y hy h a);(with_reducible apply LW.kL a);(intro t;apply t;(with_reducible exact hy));(case hargs=>(repeat (first|exact wZ.nil|(apply wZ.cons;rfl))));(case hd=>exact rfl);
          (repeat (first|exact rfl|exact dB (oi (by with_reducible assumption))|((with_reducible apply St.rB);(with_reducible assumption);(with_reducible assumption))|((with_reducible apply St.rM);(with_reducible assumption);(repeat (first|exact mM|apply mN));with_reducible fail_if_success (apply MT))|((with_reducible apply St.HI);(with_reducible assumption);(with_reducible assumption);(repeat (first|exact mM|apply mN)))|((with_reducible apply St.MQ);(with_reducible assumption);(with_reducible assumption);(repeat (first|exact mM|apply mN)))));
          (clear a);(repeat ((with_reducible apply KX.ex);intro c));(first|((with_reducible apply KX.f0);(with_reducible assumption))|((with_reducible apply KX.f1);(with_reducible assumption)));intro w s a)
      | ((with_reducible apply LW.O9);(apply gK (by first|with_reducible exact h|exact h) a);(clear a);(intro y hy h a);(with_reducible apply LW.kE a);(with_reducible assumption);(intro F u t;apply t;(with_reducible exact hy));(case hargs=>(repeat (first|exact wZ.nil|(apply wZ.cons;rfl))));(case hd=>exact rfl);(all_goals (try (with_reducible apply mQ.st u)));
          (case hsel=>(repeat (first|exact x8.nil|((apply x8.cons);(repeat (first|exact Qd|apply Qj))))));(case hR=>exact rfl);(case hn=>exact rfl);
          (repeat (first|exact rfl|exact dB (oi (by with_reducible assumption))|((with_reducible apply mQ.rB);(with_reducible assumption);(with_reducible assumption))|((with_reducible apply mQ.rM);(with_reducible assumption);(repeat (first|exact mM|apply mN));with_reducible fail_if_success (apply MT))|((with_reducible apply mQ.HI);(with_reducible assumption);(with_reducible assumption);(repeat (first|exact mM|apply mN));with_reducible fail_if_success (apply MT))|((with_reducible apply mQ.MQ);(with_reducible assumption);(with_reducible assumption);(repeat (first|exact mM|apply mN)))));
          (intro F u);(clear a);(repeat ((with_reducible apply KX.ex);intro c));((with_reducible apply KX.fE);(with_reducible assumption));intro w s a)
      | ((with_reducible apply LW.O9);(with_reducible apply LW.kL a);(intro t;apply t;(with_reducible assumption));(case hargs=>(repeat (first|exact wZ.nil|(apply wZ.cons;rfl))));(case hd=>exact rfl);
          (repeat (first|exact rfl|exact dB (oi (by with_reducible assumption))|((with_reducible apply St.rB);(with_reducible assumption);(with_reducible assumption))|((with_reducible apply St.rM);(with_reducible assumption);(repeat (first|exact mM|apply mN));with_reducible fail_if_success (apply MT))|((with_reducible apply St.HI);(with_reducible assumption);(with_reducible assumption);(repeat (first|exact mM|apply mN)))|((with_reducible apply St.MQ);(with_reducible assumption);(with_reducible assumption);(repeat (first|exact mM|apply mN)))));
          (clear a);(repeat ((with_reducible apply KX.ex);intro c));(first|((with_reducible apply KX.f0);(with_reducible assumption))|((with_reducible apply KX.f1);(with_reducible assumption)));intro w s a)
      | ((with_reducible apply Q8);(repeat (first|exact jZ|((with_reducible apply Kept.c);(case h=>(first|((with_reducible apply St.cA);(with_reducible assumption);(repeat (first|exact mM|apply mN));done)|((with_reducible apply St.vm);(with_reducible assumption);(with_reducible assumption))|((with_reducible apply St.zM);(with_reducible assumption);(with_reducible assumption);(repeat (first|exact mM|apply mN));done))))|((with_reducible apply Kept.w);(decide +kernel)))))
      | with_reducible apply LW.nil
      | ((with_reducible apply CW.nr);(repeat first|(with_reducible exact rfl)|(with_reducible apply yr)))
      | with_reducible apply CW.seq
      | with_reducible apply MP
      | with_reducible apply Mw
      | with_reducible apply MW
      | with_reducible apply Ms
      | with_reducible apply MU
      | with_reducible apply MM
      | ((with_reducible apply Mt);(exact rfl))
      | ((with_reducible apply CW.QN);rfl;(with_reducible apply CW.region))
      | with_reducible apply CW.skip
      | with_reducible apply CW.exit
      | (with_reducible apply CW.ret)
      | ((with_reducible apply AW.nr);(repeat first|(with_reducible exact rfl)|(with_reducible apply yr)))
      | refine gA ?_
      | refine QS ?_
      | ((with_reducible apply AW.Ow);(first|((apply AW.oN 0);(first|exact Nx.set _ _|exact Nx.start _);rfl;(decide +kernel);(decide +kernel))|((apply AW.oN 1);(first|exact Nx.set _ _|exact Nx.start _);rfl;(decide +kernel);(decide +kernel))|((apply AW.oN 2);(first|exact Nx.set _ _|exact Nx.start _);rfl;(decide +kernel);(decide +kernel))))
      | ((fail_if_success (with_reducible apply LW.QZ));(with_reducible apply LW.Q9);rfl))
    exact a ()):B:=f fun _=>a
end
theorem wk{B:Prop}(f:B:=by
    repeat' (first
      | (refine gc h ?_ ?_<;>intro _ h)
      | (refine gB h ?_ ?_<;>intro _ h)
      | (refine T ?_;intro _;intros;have h:=‹_=some _›)
      | exact rt
      | (refine bH h ?_ ?_<;>intro _ h))):B:=f
end Go.Kx
