import Derived.Test.YtfmfgnhbgcjajaaGreatGo
import Derived.Test.YtfmfgnhbgcjajaaGreatDat
namespace Go.Kx
open Go Go.RowKit
set_option linter.unusedVariables false
set_option linter.unusedSimpArgs false
section
variable {P:Program} {n:Nat} {Q:ja} {e:Env} {w w0:World} {F0:List Nat} {A B:Prop} {α:Type}
theorem gc{y z:Option α}{r:α}{b:Bool}{c1 c2:Code}{x:Operand}(h:(bif b then y else z)=some r)(h1:b=true->y=some r->CW P n c1 Q e w)(h2:b=false->z=some r->CW P n c2 Q e w)(f:autoParam ((Unit->CW P n (.cond x c1 c2) Q e w)->B) go._auto_1)(hx:ev e x=.bool b:=by rfl):B:=f fun _=>ch h h1 h2 hx
theorem gB{y z:Option α}{r:α}{b:Bool}(h:(bif b then y else z)=some r)(h1:b=true->y=some r->A)(h2:b=false->z=some r->A)(f:autoParam ((Unit->A)->B) go._auto_1):B:=f fun _=>by
  cases b
  · exact h2 rfl h
  · exact h1 rfl h
theorem bH{y z:Option α}{r:α}{b:Bool}(h:(bif b then y else z)=some r)(h1:b=true->y=some r->A)(h2:b=false->z=some r->A):A:=by
  cases b
  · exact h2 rfl h
  · exact h1 rfl h
theorem AW.ux{ops:Array Oper}{fuel:Nat}{E:od}{listed:Array Bool}{i d:Nat}{ty:TypeId}{pos:String}{aft:Array Edge}{g:Option (Nat×Bool)}{v:Value}{op:Op}(hn:listed[i]?=some false)(hi:ops[i]?=some ⟨some d,op,ty,pos,aft,g⟩)(hok:hZ ops listed i=true)(hw:nM ops g e=true)(hd:Nat.ble (d+1) n=true)
    (hl:dO P (ev e) op v) (h:AW P n ops Q fuel E (listed.setIfInBounds i true) (iK e d v) w):AW P n ops Q (fuel+1) E listed e w:=AW.u hi hok hw hd hl h
theorem St.cA{L:List Item}{g:Nat}{ty:TypeId}{cs:List Value}(h:St w0 F0 w L)(hm:∃i:Nat,L[i]?=some (bx g ty cs)):w.heap[g]?=some (.cells cs.toArray ty (0,0)):=by
  obtain⟨i,hi⟩:=hm;exact St.cell (h:=h) hi
theorem jn{ops:Array Oper}{fuel:Nat}{E:od}{listed:Array Bool}{j:Nat}{w':World}(h:AW P n ops Q fuel E (listed.setIfInBounds j true) e w')(k:Kept ops j E w w':=by repeat (first|exact jZ|(refine Kept.c (St.cA (by assumption) (by repeat (first|exact mQ|apply mP))) ?_)|(refine jW ?_))):
    LW P n ops (fun x e' w2=>x=.normal/\Kept ops j E w w2/\AW P n ops Q fuel E (listed.setIfInBounds j true) e' w2) [] e w':=jN k h
theorem eo{m:List (Nat×Value)}{A:Prop}(h:En e m/\A):∃e',e=dM e' m/\A:=by
  obtain⟨e',he⟩:=h.1.out;exact⟨e',he,h.2⟩
theorem LW.bd{ops:Array Oper}{rest:List Oper}{d:Nat}{ty:TypeId}{pos:String}{aft:Array Edge}{t:TypeId}{parts:Array (Nat×Operand)}(vs:List (Nat×Value))(cs:Array Value)(h:LW P n ops Q rest (iK e d (.agg cs)) w)(hp:parts.toList.map (fun p=>(p.1,ev e p.2))=vs:=by exact rfl)(hb:P.built t vs=some cs:=by kernel_rfl)(hd:Nat.ble (d+1) n=true:=by exact rfl):
    LW P n ops Q (⟨some d,.build t parts,ty,pos,aft,none⟩::rest) e w:=LW.u (dO.build hp hb) hd h
theorem AW.tk{ops:Array Oper}{fuel:Nat}{E:od}{listed:Array Bool}{d:Nat}{ty:TypeId}{pos:String}{aft:Array Edge}{g:Option (Nat×Bool)}{v:Value}{op:Op}{C:World->Prop}(i:Nat)(hi:ops[i]?=some ⟨some d,op,ty,pos,aft,g⟩)(hl:fy P (ev e) op C v)(hC:C w)(h:AW P n ops Q fuel ((i,C)::E) (listed.setIfInBounds i true) (iK e d v) w)
    (hok:hZ ops listed i=true:=by kernel_rfl) (hw:nM ops g e=true:=by exact rfl) (hd:Nat.ble (d+1) n=true:=by exact rfl):AW P n ops Q (fuel+1) E listed e w:=AW.take hi hok hw hd hl hC h
theorem HI{w:World}:∀l:List Int,gq w (l.map (Value.int .i64)) [] l
  | []=>rfl
  | x::l=>⟨[.int .i64 x],l.map (Value.int .i64),[],[],rfl,rfl,⟨rfl,rfl⟩,HI l⟩
theorem LW.bi{ops:Array Oper}{rest:List Oper}{d:Nat}{ty:TypeId}{pos:String}{aft:Array Edge}{L:List Item}{t:TypeId}{len:Nat}{parts:Array (Nat×Operand)}(l:List Int)(hS:St w0 F0 w L)(h:∀(a:Option Addr) (c:Nat) (w':World),St w0 F0 w' (sl a c l::L)->Fr w w' []->LW P n ops Q rest (iK e d (.slice a l.length c)) w')
    (hp:parts.toList.map (fun p=>(p.1,ev e p.2))=l.zipIdx.map (fun p=>(p.2,Value.int .i64 p.1)):=by exact rfl) (hb:yz P t len (l.zipIdx.map fun p=>(p.2,Value.int .i64 p.1))=some (dv.ty Int,(l.map (Value.int .i64)).toArray):=by kernel_rfl) (hl:l.length=len:=by exact rfl) (hL:Nat.ble len 65536=true:=by exact rfl) (hd:Nat.ble (d+1) n=true:=by exact rfl) :
    LW P n ops Q (⟨some d,.buildSlice t len parts,ty,pos,aft,none⟩::rest) e w:=LW.xn hp hb hl (by subst hl;show(l.map (Value.int .i64)).toArray.size=l.length*1;simp) hL (fun w=>HI l) hS hd h
theorem LW.b0[dv α]{ops:Array Oper}{rest:List Oper}{d:Nat}{ty:TypeId}{pos:String}{aft:Array Edge}{L:List Item}{t:TypeId}{parts:Array (Nat×Operand)}(hS:St w0 F0 w L)(h:∀(a:Option Addr) (c:Nat) (w':World),St w0 F0 w' (sl a c ([]:List α)::L)->Fr w w' []->LW P n ops Q rest (iK e d (.slice a ([]:List α).length c)) w')
    (hp:parts.toList.map (fun p=>(p.1,ev e p.2))=[]:=by exact rfl) (hb:yz P t 0 []=some (dv.ty α, #[]):=by kernel_rfl) (hd:Nat.ble (d+1) n=true:=by exact rfl) :
    LW P n ops Q (⟨some d,.buildSlice t 0 parts,ty,pos,aft,none⟩::rest) e w:=LW.xn (l:=([]:List α)) hp hb rfl (by simp) rfl (fun w=>rfl) hS hd h
-- fused
section
variable {ops:Array Oper} {rest:List Oper} {fuel:Nat} {E:od} {listed:Array Bool} {d:Nat} {ty:TypeId} {pos:String} {aft:Array Edge} {v:Value} {l:List (Nat×Value)} {L:List Item} {j:Nat}
theorem sP{E:Env}{t bt:TypeId}{x y:Operand}{a:Option Nat}{g o:Nat}{cs vs cs':List Value}{L':List Item}(hS:St w0 F0 w L)(i:Nat)(h:∀w':World,St w0 F0 w' L'->LW P n ops Q rest (dM e l) w')
    (f:autoParam ((Unit->LW P n ops Q (⟨none,.store t x y,ty,pos,aft,none⟩::rest) E w)->B) go._auto_1) (hE:E=dM e l:=by exact tX) (hx:iH l x=some (.pointer (some ⟨g,o,none⟩)):=by rfl) (hi:L[i]?=some (bx g bt cs):=by rfl) (ht:fL P t=some a:=by exact jA.h) (hy:iH l y=some v:=by rfl) (hv:Nf v.cells.toList vs:=by exact iQ) (hm:vs.length=a.getD 1:=by rfl) (hl:Nat.ble (o+vs.length) cs.length=true:=by rfl) (h1:vs.all (·.oneCell')=true:=by rfl) (hc:Nf (x8 cs o vs) cs':=by exact iQ) (hL:Nf (L.set i (bx g bt cs')) L':=by exact iQ):B:=f fun _=>LW.st hS i h hE hx hi ht hy hv hm hl h1 hc hL
theorem vi{E:Env}{t:TypeId}{x:Operand}{cs:List Value}(hS:St w0 F0 w L)(h:∀(g:Nat) (w':World),St w0 F0 w' (bx g t cs::L)->LW P n ops Q rest (dM e ((d,.pointer (some ⟨g,0,none⟩))::l)) w')
    (f:autoParam ((Unit->LW P n ops Q (⟨some d,.box t x,ty,pos,aft,none⟩::rest) E w)->B) go._auto_1) (hE:E=dM e l:=by exact tX) (hx:iH l x=some v:=by rfl) (hv:Nf v.cells.toList cs:=by exact iQ) (hd:Nat.ble (d+1) n=true:=by rfl):B:=f fun _=>LW.bo hS h hE hx hv hd
theorem gH{E:Env}{m:List (Nat×Value)}{c:Code}(ds:List Nat)(k:∀e',CW P n c Q (dM e' m) w)
    (f:autoParam ((Unit->CW P n c Q E w)->B) go._auto_1) (hE:E=dM e l:=by exact tX) (h:pG l ds m:=by exact vX):B:=f fun _=>CW.fl ds k hE h
theorem Cq{o:Oper}(i:Nat)(h:LW P n ops (fun x e' w'=>x=.normal/\Kept ops i E w w'/\AW P n ops Q fuel E (listed.setIfInBounds i true) e' w') [o] e w)
    (f:autoParam ((Unit->AW P n ops Q (fuel+1) E listed e w)->B) go._auto_1) (ho:ops[i]?=some o:=by rfl) (hr:Region.ready .any ops listed=[i]:=by kernel_rfl):B:=f fun _=>jO i h ho hr
theorem dW{id:Nat}{lo:List Oper}(h:AW P n lo.toArray Q lo.length [] (Array.replicate lo.length false) e w.drew)(hm:P.follows .mixedOrders=true:=by kernel_rfl):CW P n (.region id lo.toArray true) Q e w:=CW.draw hm h
theorem gP{id:Nat}{lo:List Oper}(h:AW P n lo.toArray Q lo.length [] (Array.replicate lo.length false) e w.drew)(f:autoParam ((Unit->CW P n (.region id lo.toArray true) Q e w)->B) go._auto_1)(hm:P.follows .mixedOrders=true:=by kernel_rfl):B:=f fun _=>CW.draw hm h
theorem fD{t:TypeId}{parts:Array (Nat×Operand)}(vs:List (Nat×Value))(cs:Array Value)(h:LW P n ops Q rest (iK e d (.agg cs)) w)(f:autoParam ((Unit->LW P n ops Q (⟨some d,.build t parts,ty,pos,aft,none⟩::rest) e w)->B) go._auto_1)(hp:parts.toList.map (fun p=>(p.1,ev e p.2))=vs:=by exact rfl)(hb:P.built t vs=some cs:=by kernel_rfl)(hd:Nat.ble (d+1) n=true:=by exact rfl):
    B:=f fun _=>LW.u (dO.build hp hb) hd h
end
-- end fused
theorem tt{t:Nat}:dK P e w (.tmp t) (e t):=rfl
theorem Ra{t:Nat}{K:Value->Prop}(k:K (e t)):True/\∃v,ib P #[.tmp t] e w v/\K v:=⟨trivial,_,ib.one rfl,k⟩
theorem ry{r s:ResultVar}{u v:Value}{K:Value->Prop}(h:dK P e w r u)(k:dK P e w s v)(q:K (.tuple #[u,v])):∃v,ib P #[r,s] e w v/\K v:=⟨_,ib.two h k,q⟩
theorem Rc{r s:ResultVar}{u v:Value}{K:Value->Prop}(h:dK P e w r u)(k:dK P e w s v)(q:K (.tuple #[u,v])):True/\∃v,ib P #[r,s] e w v/\K v:=⟨trivial,_,ib.two h k,q⟩
end
section
variable {α:Type} [dv α] {w w0:World} {F0:List Nat}
theorem St.mi{a:Option Addr}{c k:Nat}{l:List α}{cs:List Value}{Z X R:List Item}(h:St w0 F0 w Z)(y:α)(is:List Nat)(m i:Nat)(hp:iV Z is=some X)(hi:X[m+i]?=some (hole α a c l k cs))(hM:∀(w:World) (G:List Nat),eK (X.take m) w G->dv.own w cs G y)
    (hn:oU is=true:=by exact rfl) (hR:Nf ((X.drop m).set i (sl a c (l.set k y))) R:=by exact iQ):St w0 F0 w R:=by
  cases hR.eq;have h2:=h.pick is hp hn;rw[<- List.take_append_drop m X]at h2;exact h2.M9 i (by rw[List.getElem?_drop];exact hi) hM
end
abbrev qP(a0:Ad)(c0:Nat)(a1:Ad)(c1:Nat)(a2:Ad)(c2:Nat)(a3:Ad)(c3:Nat)(a4:Ad)(c4:Nat)(a5:Ad)(c5:Nat)(x:bh):List Value:=[vS a0 x.Rg.Rf.length c0,vS a1 x.own.length c1,vS a2 x.Rh.length c2,vS a3 x.heap.ag.length c3,vI x.heap.gc.Rj,vI x.heap.gc.Rs,vI x.heap.gc.Rk,vS a4 x.heap.gc.da.length c4,vS a5 x.dc.length c5,vI x.Rr,vI x.Rq,vI x.db.c6,vI x.db.dh,vI x.db.du,vI x.dx,vI x.Rp]
abbrev qO(a0:Ad)(c0:Nat)(a1:Ad)(c1:Nat)(a2:Ad)(c2:Nat)(x:cd):List Value:=[vI x.Rt,vI x.so,vI x.box,vI x.Rx,vI x.dV,vI x.c6,vI x.Ro,vI x.eh,vI x.ef,.bool x.mark,vS a0 x.dk.length c0,vS a1 x.Rm.length c1,vS a2 x.Ri.length c2]
abbrev qC(a0:Ad)(c0:Nat)(a1:Ad)(c1:Nat)(a2:Ad)(c2:Nat)(a3:Ad)(c3:Nat)(a4:Ad)(c4:Nat)(a5:Ad)(c5:Nat)(x:dN):List Value:=[vS a0 x.py.Rg.Rf.length c0,vS a1 x.py.own.length c1,vS a2 x.py.Rh.length c2,vS a3 x.py.heap.ag.length c3,vI x.py.heap.gc.Rj,vI x.py.heap.gc.Rs,vI x.py.heap.gc.Rk,vS a4 x.py.heap.gc.da.length c4,vS a5 x.py.dc.length c5,vI x.py.Rr,vI x.py.Rq,vI x.py.db.c6,vI x.py.db.dh,vI x.py.db.du,vI x.py.dx,vI x.py.Rp,vI x.me,vI x.Rn,vI x.dS]
abbrev qL(x:dG):List Value:=[vI x.so,vI x.a,vI x.b,vI x.c,vI x.d,vI x.e]
abbrev qE(x:dY):List Value:=[vI x.so,vI x.py,vI x.dS,vI x.call.so,vI x.call.a,vI x.call.b,vI x.call.c,vI x.call.d,vI x.call.e]
abbrev qH(a0:Ad)(c0:Nat)(a1:Ad)(c1:Nat)(x:df):List Value:=[vS a0 x.ag.length c0,vI x.gc.Rj,vI x.gc.Rs,vI x.gc.Rk,vS a1 x.gc.da.length c1]
abbrev qB(a0:Ad)(c0:Nat)(a1:Ad)(c1:Nat)(x:er):List Value:=[vS a0 x.Rg.Rf.length c0,vS a1 x.own.length c1,vI x.fG.c6,vI x.fG.dh,vI x.fG.du]
abbrev qT(x:ez):List Value:=[vI x.Rx,vI x.fY,vI x.nN,vI x.iG,vI x.so,vI x.kr]
abbrev uP(a0:Ad)(n0 c0:Nat)(a1:Ad)(n1 c1:Nat)(a2:Ad)(n2 c2:Nat)(a3:Ad)(n3 c3:Nat)(a4:Ad)(n4 c4:Nat)(a5:Ad)(n5 c5:Nat)(x:bh):Array Value:=#[vS a0 n0 c0,vS a1 n1 c1,vS a2 n2 c2,vS a3 n3 c3,vI x.heap.gc.Rj,vI x.heap.gc.Rs,vI x.heap.gc.Rk,vS a4 n4 c4,vS a5 n5 c5,vI x.Rr,vI x.Rq,vI x.db.c6,vI x.db.dh,vI x.db.du,vI x.dx,vI x.Rp]
abbrev uO(a0:Ad)(n0 c0:Nat)(a1:Ad)(n1 c1:Nat)(a2:Ad)(n2 c2:Nat)(x:cd):Array Value:=#[vI x.Rt,vI x.so,vI x.box,vI x.Rx,vI x.dV,vI x.c6,vI x.Ro,vI x.eh,vI x.ef,.bool x.mark,vS a0 n0 c0,vS a1 n1 c1,vS a2 n2 c2]
abbrev uL(x:dG):Array Value:=#[vI x.so,vI x.a,vI x.b,vI x.c,vI x.d,vI x.e]
abbrev uE(x:dY):Array Value:=#[vI x.so,vI x.py,vI x.dS,vI x.call.so,vI x.call.a,vI x.call.b,vI x.call.c,vI x.call.d,vI x.call.e]
abbrev uH(a0:Ad)(n0 c0:Nat)(a1:Ad)(n1 c1:Nat)(x:df):Array Value:=#[vS a0 n0 c0,vI x.gc.Rj,vI x.gc.Rs,vI x.gc.Rk,vS a1 n1 c1]
abbrev uB(a0:Ad)(n0 c0:Nat)(a1:Ad)(n1 c1:Nat)(x:er):Array Value:=#[vS a0 n0 c0,vS a1 n1 c1,vI x.fG.c6,vI x.fG.dh,vI x.fG.du]
abbrev uT(x:ez):Array Value:=#[vI x.Rx,vI x.fY,vI x.nN,vI x.iG,vI x.so,vI x.kr]
class Ct (P:Program) (f:FuncId) where
  {T:Prop}
  p:uq P f=true:=by kernel_rfl
  h:T
def KX(K G:Value->World->Prop)(A:Prop):Prop:=(Unit->A)->∀v w,K v w->G v w
theorem KX.ex{γ:Type}{K:γ->Value->World->Prop}{G:Value->World->Prop}{A:γ->Prop}(h:∀c,KX (K c) G (A c)):KX (fun v w=>∃c,K c v w) G (∀c,A c):=fun a v w ⟨c,hc⟩=>h c (fun _=>a () c) v w hc
inductive xv (l:List (Nat×Value)):List Operand->List Value->Prop
  | nil:xv l [] []
  | cons {x:Operand} {v:Value} {xs:List Operand} {vs:List Value} (h:iH l x=some v) (t:xv l xs vs):xv l (x::xs) (v::vs)
theorem xv.eq{e:Env}{l:List (Nat×Value)}:∀{xs:List Operand} {vs:List Value},xv l xs vs->xs.map (ev (dM e l))=vs
  | _,_,.nil=>rfl
  | _,_,.cons h t=>by rw[List.map_cons,fq h,t.eq]
inductive Ud (g:Nat) (bt:TypeId) (cs cs':List Value):List Item->List Item->Prop
  | hd {L:List Item}:Ud g bt cs cs' (bx g bt cs::L) (bx g bt cs'::L)
  | tl {x:Item} {L L':List Item} (h:Ud g bt cs cs' L L'):Ud g bt cs cs' (x::L) (x::L')
theorem Ud.ix{g:Nat}{bt:TypeId}{cs cs':List Value}:∀{L L':List Item},Ud g bt cs cs' L L'->∃i:Nat,L[i]?=some (bx g bt cs)/\L'=L.set i (bx g bt cs')
  | _,_,.hd=>⟨0,rfl,rfl⟩
  | _,_,.tl h=>by
    obtain⟨i,h1,h2⟩:=h.ix;exact⟨i+1,h1,by rw[h2];rfl⟩
inductive za (L:List Item):List Nat->List Item->Prop
  | nil:za L [] []
  | cons {i:Nat} {x:Item} {is:List Nat} {M:List Item} (h:L[i]?=some x) (t:za L is M):za L (i::is) (x::M)
theorem za.eq{L:List Item}:∀{is:List Nat} {M:List Item},za L is M->iV L is=some M
  | _,_,.nil=>rfl
  | _,_,.cons h t=>by unfold iV;rw[h,t.eq]
theorem MN{L:List Item}{x:Item}(h:∃i:Nat,L[i]?=some x):∃i:Nat,L[i]?=some x:=h
theorem Qm{L:List Item}{x:Item}:(x::L)[0]?=some x:=rfl
theorem Qo{L:List Item}{x y:Item}{i:Nat}(h:L[i]?=some x):(y::L)[i+1]?=some x:=h
section
variable {P:Program} {n:Nat} {Q:ja} {e:Env} {l:List (Nat×Value)} {w w0:World} {F0:List Nat} {L L':List Item} {ops:Array Oper} {rest:List Oper} {ty:TypeId} {pos:String} {aft:Array Edge} {d:Nat} {v:Value}
theorem St.Q2{M:List Item}{is:List Nat}(h:St w0 F0 w L)(hs:za L is M)(hn:oU is=true):St w0 F0 w M:=h.pick is hs.eq hn
theorem St.rM{α:Type}[dv α]{a:Option Addr}{c:Nat}{m:List α}(h:St w0 F0 w L)(hm:∃i:Nat,L[i]?=some (sl a c m)):ee (eT w []) w a c m:=by
  obtain⟨i,hi⟩:=hm;exact h.rI i hi
theorem St.HJ{α:Type}[dv α]{a:Option Addr}{c:Nat}{m:List α}{w1:World}{F:List Nat}(h:St w0 F0 w L)(hr:ee (fun b=>b∈F) w1 a c m)(hm:∃i:Nat,L[i]?=some (fz w1 F)):ee (eT w []) w a c m:=by
  obtain⟨i,hi⟩:=hm;exact h.rZ i hi hr
theorem St.MO{α:Type}[dv α]{a:Option Addr}{c:Nat}{m:List α}{w1:World}{F:List Nat}(h:St w0 F0 w L)(hr:kC w1 a c F m)(hm:∃i:Nat,L[i]?=some (fz w1 F)):ee (eT w []) w a c m:=h.HJ hr.fw hm
theorem KX.f0{G:Value->World->Prop}{u:Value}{A:World->Prop}(hS:St w0 F0 w L)(k:∀w',St w0 F0 w' L->(Unit->A w')->G u w'):KX (fun v w'=>v=u/\St w [] w' []) G (∀w',St w0 F0 w' L->A w'):=fun a v w' ⟨h1,h2⟩=>by
  subst h1
  have h3:St w0 F0 w' L:=by simpa using hS.add h2
  exact k w' h3 fun _=>a () w' h3
theorem KX.f1{G:Value->World->Prop}{u:Value}{M:List Item}{A:World->Prop}(hS:St w0 F0 w L)(k:∀w',St w0 F0 w' (M++L)->(Unit->A w')->G u w'):KX (fun v w'=>v=u/\St w [] w' M) G (∀w',St w0 F0 w' (M++L)->A w'):=fun a v w' ⟨h1,h2⟩=>by
  subst h1;exact k w' (hS.add h2) fun _=>a () w' (hS.add h2)
theorem gK{α β:Type}{o:Option α}{g:α->Option β}{r:β}{A:α->Prop}{G:Prop}(h:o.bind g=some r)(a:Unit->∀x,o=some x->g x=some r->A x)(k:∀x,o=some x->g x=some r->(Unit->A x)->G):G:=by
  obtain⟨x,h1,h2⟩:=Option.bind_eq_some_iff.1 h;exact k x h1 h2 fun _=>a () x h1 h2
theorem LW.Oy{f:FuncId}{as:Array Operand}{ts:Array TypeId}(h:LW P n ops Q (⟨some d,.call { callee:=.value (.func f),args:=as,argTypes:=ts },ty,pos,aft,none⟩::rest) e w):LW P n ops Q (⟨some d,.call { callee:=.value (.func f),args:=as,argTypes:=ts },ty,pos,aft,none⟩::rest) e w:=h
theorem LW.kL{f:FuncId}[c:Ct P f]{as:Array Operand}{ts:Array TypeId}{al:List Value}{K:Value->World->Prop}{A:Prop}(a:Unit->A)(q:c.T->dj P f al.toArray w K)(x:KX K (fun v w'=>LW P n ops Q rest (dM e ((d,v)::l)) w') A)(hd:Nat.ble (d+1) n=true)(hargs:xv l as.toList al):
    LW P n ops Q (⟨some d,.call { callee:=.value (.func f),args:=as,argTypes:=ts },ty,pos,aft,none⟩::rest) (dM e l) w:=LW.cl (q c.h) (fun v w' hk=>x a v w' hk) c.p hd hargs.eq
theorem LW.sT{t bt:TypeId}{x y:Operand}{av:Option Nat}{g o:Nat}{cs vs cs':List Value}{A:World->Prop}(a:Unit->∀w':World,St w0 F0 w' L'->A w')
    (hx:iH l x=some (.pointer (some ⟨g,o,none⟩))) (hS:St w0 F0 w L) (hU:Ud g bt cs cs' L L') (ht:fL P t=some av) (hy:iH l y=some v) (hv:Nf v.cells.toList vs) (hm:vs.length=av.getD 1) (hl:Nat.ble (o+vs.length) cs.length=true) (h1:vs.all (·.oneCell')=true) (hc:Nf (x8 cs o vs) cs')
    (k:∀w':World,St w0 F0 w' L'->(Unit->A w')->LW P n ops Q rest (dM e l) w'):LW P n ops Q (⟨none,.store t x y,ty,pos,aft,none⟩::rest) (dM e l) w:=by
  obtain⟨i,h2,rfl⟩:=hU.ix;cases hv.eq;cases hc.eq;exact LW.Qq hS i h2 ht (fq hx) (by rw[fq hy]) hm hl h1 fun w' hS' _=>k w' hS' fun _=>a () w' hS'
theorem LW.bT{t:TypeId}{x:Operand}{cs:List Value}{A:Nat->World->Prop}(a:Unit->∀(g:Nat) (w':World),St w0 F0 w' (bx g t cs::L)->A g w')(hx:iH l x=some v)(hv:Nf v.cells.toList cs)(hS:St w0 F0 w L)(hd:Nat.ble (d+1) n=true)
    (k:∀(g:Nat) (w':World),St w0 F0 w' (bx g t cs::L)->(Unit->A g w')->LW P n ops Q rest (dM e ((d,.pointer (some ⟨g,0,none⟩))::l)) w'):LW P n ops Q (⟨some d,.box t x,ty,pos,aft,none⟩::rest) (dM e l) w:=by
  cases hv.eq;exact LW.box (by rw[fq hx]) hS hd fun g w' hS' _=>k g w' hS' fun _=>a () g w' hS'
theorem LW.aT{t:TypeId}{cs:List Value}{A:Nat->World->Prop}[z:uR P t](a:Unit->∀(g:Nat) (w':World),St w0 F0 w' (bx g t cs::L)->A g w')(hv:Nf z.z.cells.toList cs)(hS:St w0 F0 w L)(hd:Nat.ble (d+1) n=true)
    (k:∀(g:Nat) (w':World),St w0 F0 w' (bx g t cs::L)->(Unit->A g w')->LW P n ops Q rest (dM e ((d,.pointer (some ⟨g,0,none⟩))::l)) w'):LW P n ops Q (⟨some d,.alloc t,ty,pos,aft,none⟩::rest) (dM e l) w:=by
  cases hv.eq;exact LW.alloc z.h hS hd fun g w' hS' _=>k g w' hS' fun _=>a () g w' hS'
theorem ib.at{rs:Array ResultVar}(h:ib P rs e w v):ib P rs e w v:=h
theorem dK.at{r:ResultVar}(h:dK P e w r v):dK P e w r v:=h
theorem dK.bM{a T m g:Nat}{bt:TypeId}{cs:List Value}(ha:e a=.pointer (some ⟨g,0,none⟩))(hS:St w0 F0 w L)(hi:∃i:Nat,L[i]?=some (bx g bt cs))(ht:fL P T=some (some m))(hm:cs.length=m):dK P e w (.cell a T) (.agg cs.toArray):=by
  obtain⟨i,hi⟩:=hi;exact .b hS i hi ht ha hm
theorem dK.cM{a T g:Nat}{bt:TypeId}{cs:List Value}(ha:e a=.pointer (some ⟨g,0,none⟩))(hS:St w0 F0 w L)(hi:∃i:Nat,L[i]?=some (bx g bt cs))(ht:fL P T=some none)(hv:wJ cs 0=some v):dK P e w (.cell a T) v:=by
  obtain⟨i,hi⟩:=hi;exact .b1 hS i hi ht ha hv
section
variable {fuel:Nat} {E:od} {listed:Array Bool} {i b:Nat}
theorem St.vu{b:Nat}(h:St w0 F0 w L)(hb:eT w0 F0 b):w.heap[b]?=w0.heap[b]?:=h.same b hb.1 hb.2
theorem St.zM{b:Nat}{w1:World}{F:List Nat}(h:St w0 F0 w L)(hb:b∈F)(hi:∃i:Nat,L[i]?=some (fz w1 F)):w.heap[b]?=w1.heap[b]?:=by
  obtain⟨i,hi⟩:=hi;exact h.zC i hi hb
theorem QZ{j:Nat}{w':World}(k:Kept ops j E w w')(h:AW P n ops Q fuel E (listed.setIfInBounds j true) e w'):
    LW P n ops (fun x e' w2=>x=.normal/\Kept ops j E w w2/\AW P n ops Q fuel E (listed.setIfInBounds j true) e' w2) [] e w':=jN k h
theorem AW.oN(k:Nat){dd:Option Tmp}{op:Op}{g:Option (Nat×Bool)}(hx:Nx listed b)(hi:ops[b+k]?=some ⟨dd,op,ty,pos,aft,g⟩)(hs:KA ops listed (b+k)=true)(hr:(Region.ready .any ops listed==[b+k])=true)
    (h:LW P n ops (fun x e' w'=>x=.normal/\Kept ops (b+k) E w w'/\AW P n ops Q fuel E (listed.setIfInBounds (b+k) true) e' w') [⟨dd,op,ty,pos,aft,g⟩] e w):AW P n ops Q (fuel+1) E listed e w:=AW.one (by simpa using hr) ⟨_,hi,h⟩
theorem jP(i:Nat){dd:Option Tmp}{op:Op}{g:Option (Nat×Bool)}(h:LW P n ops (fun x e' w'=>x=.normal/\Kept ops i E w w'/\AW P n ops Q fuel E (listed.setIfInBounds i true) e' w') [⟨dd,op,ty,pos,aft,g⟩] e w)
    (ho:ops[i]?=some ⟨dd,op,ty,pos,aft,g⟩:=by rfl) (hr:Region.ready .any ops listed=[i]:=by kernel_rfl):AW P n ops Q (fuel+1) E listed e w:=AW.one hr ⟨_,ho,h⟩
theorem oA{i:Nat}{dd:Option Tmp}{op:Op}{g:Option (Nat×Bool)}{R:ja}(h:LW P n ops R [⟨dd,op,ty,pos,aft,g⟩] e w)(ho:ops[i]?=some ⟨dd,op,ty,pos,aft,g⟩:=by rfl):∃o,ops[i]?=some o/\LW P n ops R [o] e w:=⟨_,ho,h⟩
end
section
variable {t:TypeId} {x:Operand} {b O k m:Nat} {cs vs:List Value} {w1:World} {fuel:Nat} {E:od} {listed:Array Bool} {i:Nat}
theorem LW.Pp(hx:iH l x=some (.pointer (some ⟨b,O,none⟩)))(hk:∀(j:Nat) (u:Value),cs[j]?=some u->w1.cell? ⟨b,O+j,none⟩=some u)(hb:w.heap[b]?=w1.heap[b]?)(ht:fL P t=some none)(hv:cs[0]?=some v)(hd:Nat.ble (d+1) n=true)
    (h:LW P n ops Q rest (dM e ((d,v)::l)) w):LW P n ops Q (⟨some d,.load t x,ty,pos,aft,none⟩::rest) (dM e l) w:=LW.l (fy.g8 w1 ht (fq hx) (hk 0 v hv)) hb hd h
theorem LW.Pw(hx:iH l x=some (.pointer (some ⟨b,O+k,none⟩)))(hk:∀(j:Nat) (u:Value),cs[j]?=some u->w1.cell? ⟨b,O+j,none⟩=some u)(hb:w.heap[b]?=w1.heap[b]?)(ht:fL P t=some none)(hv:cs[k]?=some v)(hd:Nat.ble (d+1) n=true)
    (h:LW P n ops Q rest (dM e ((d,v)::l)) w):LW P n ops Q (⟨some d,.load t x,ty,pos,aft,none⟩::rest) (dM e l) w:=LW.l (fy.g8 w1 ht (fq hx) (hk k v hv)) hb hd h
theorem zt(hk:∀(j:Nat) (u:Value),cs[j]?=some u->w1.cell? ⟨b,O+j,none⟩=some u):∀(j:Nat) (u:Value),(rE cs k m)[j]?=some u->w1.cell? ⟨b,O+k+j,none⟩=some u:=fun j u hu=>by
  rw[Nat.add_assoc];exact hk _ _ (zx _ _ _ _ _ hu)
theorem LW.Og(hx:iH l x=some (.pointer (some ⟨b,O,none⟩)))(hk:∀(j:Nat) (u:Value),cs[j]?=some u->w1.cell? ⟨b,O+j,none⟩=some u)(hb:w.heap[b]?=w1.heap[b]?)(ht:fL P t=some (some m))(hl:Nat.ble (0+m) cs.length=true)(hd:Nat.ble (d+1) n=true)(hn:Nf (rE cs 0 m) vs)
    (h:LW P n ops Q rest (dM e ((d,.agg vs.toArray)::l)) w):LW P n ops Q (⟨some d,.load t x,ty,pos,aft,none⟩::rest) (dM e l) w:=by
  cases hn.eq;exact LW.l (fy.ua w1 ht (fq hx) (uj _ _ _ (Nat.le_of_ble_eq_true hl)) (zt (k:=0) hk)) hb hd h
theorem LW.OC(hx:iH l x=some (.pointer (some ⟨b,O+k,none⟩)))(hk:∀(j:Nat) (u:Value),cs[j]?=some u->w1.cell? ⟨b,O+j,none⟩=some u)(hb:w.heap[b]?=w1.heap[b]?)(ht:fL P t=some (some m))(hl:Nat.ble (k+m) cs.length=true)(hd:Nat.ble (d+1) n=true)(hn:Nf (rE cs k m) vs)
    (h:LW P n ops Q rest (dM e ((d,.agg vs.toArray)::l)) w):LW P n ops Q (⟨some d,.load t x,ty,pos,aft,none⟩::rest) (dM e l) w:=by
  cases hn.eq;exact LW.l (fy.ua w1 ht (fq hx) (uj _ _ _ (Nat.le_of_ble_eq_true hl)) (zt hk)) hb hd h
theorem ia.Pp(hx:iH l x=some (.pointer (some ⟨b,O,none⟩)))(hk:∀(j:Nat) (u:Value),cs[j]?=some u->w1.cell? ⟨b,O+j,none⟩=some u)(hb:w.heap[b]?=w1.heap[b]?)(ht:fL P t=some none)(hv:cs[0]?=some v)(hd:Nat.ble (d+1) n=true)(hok:hZ ops listed i=true)
    (h:AW P n ops Q fuel ((i,fun w=>w.heap[b]?=w1.heap[b]?)::E) (listed.setIfInBounds i true) (dM e ((d,v)::l)) w):ia P n ops Q fuel E listed i d (.load t x) (dM e l) w:=⟨hok,hd,v,.inr ⟨_,fy.g8 w1 ht (fq hx) (hk 0 v hv),hb,h⟩⟩
theorem ia.Pw(hx:iH l x=some (.pointer (some ⟨b,O+k,none⟩)))(hk:∀(j:Nat) (u:Value),cs[j]?=some u->w1.cell? ⟨b,O+j,none⟩=some u)(hb:w.heap[b]?=w1.heap[b]?)(ht:fL P t=some none)(hv:cs[k]?=some v)(hd:Nat.ble (d+1) n=true)(hok:hZ ops listed i=true)
    (h:AW P n ops Q fuel ((i,fun w=>w.heap[b]?=w1.heap[b]?)::E) (listed.setIfInBounds i true) (dM e ((d,v)::l)) w):ia P n ops Q fuel E listed i d (.load t x) (dM e l) w:=⟨hok,hd,v,.inr ⟨_,fy.g8 w1 ht (fq hx) (hk k v hv),hb,h⟩⟩
theorem ia.Og(hx:iH l x=some (.pointer (some ⟨b,O,none⟩)))(hk:∀(j:Nat) (u:Value),cs[j]?=some u->w1.cell? ⟨b,O+j,none⟩=some u)(hb:w.heap[b]?=w1.heap[b]?)(ht:fL P t=some (some m))(hl:Nat.ble (0+m) cs.length=true)(hd:Nat.ble (d+1) n=true)(hn:Nf (rE cs 0 m) vs)(hok:hZ ops listed i=true)
    (h:AW P n ops Q fuel ((i,fun w=>w.heap[b]?=w1.heap[b]?)::E) (listed.setIfInBounds i true) (dM e ((d,.agg vs.toArray)::l)) w):ia P n ops Q fuel E listed i d (.load t x) (dM e l) w:=by
  cases hn.eq;exact⟨hok,hd,_,.inr ⟨_,fy.ua w1 ht (fq hx) (uj _ _ _ (Nat.le_of_ble_eq_true hl)) (zt (k:=0) hk),hb,h⟩⟩
theorem ia.OC(hx:iH l x=some (.pointer (some ⟨b,O+k,none⟩)))(hk:∀(j:Nat) (u:Value),cs[j]?=some u->w1.cell? ⟨b,O+j,none⟩=some u)(hb:w.heap[b]?=w1.heap[b]?)(ht:fL P t=some (some m))(hl:Nat.ble (k+m) cs.length=true)(hd:Nat.ble (d+1) n=true)(hn:Nf (rE cs k m) vs)(hok:hZ ops listed i=true)
    (h:AW P n ops Q fuel ((i,fun w=>w.heap[b]?=w1.heap[b]?)::E) (listed.setIfInBounds i true) (dM e ((d,.agg vs.toArray)::l)) w):ia P n ops Q fuel E listed i d (.load t x) (dM e l) w:=by
  cases hn.eq;exact⟨hok,hd,_,.inr ⟨_,fy.ua w1 ht (fq hx) (uj _ _ _ (Nat.le_of_ble_eq_true hl)) (zt hk),hb,h⟩⟩
theorem H5{A B:Prop}(a:A)(f:(Unit->A)->B:=by
    intro a
    (first
      | ((with_reducible apply ia.Pp);rfl;(with_reducible_and_instances assumption);(first|((with_reducible apply St.vu);(with_reducible assumption);(with_reducible assumption))|((with_reducible apply St.zM);(with_reducible assumption);(with_reducible assumption);(repeat (first|exact mQ|apply mP))));(exact jA.h);rfl;rfl;(decide +kernel))
      | ((with_reducible apply ia.Pw);rfl;(with_reducible_and_instances assumption);(first|((with_reducible apply St.vu);(with_reducible assumption);(with_reducible assumption))|((with_reducible apply St.zM);(with_reducible assumption);(with_reducible assumption);(repeat (first|exact mQ|apply mP))));(exact jA.h);rfl;rfl;(decide +kernel))
      | ((with_reducible apply ia.Og);rfl;(with_reducible_and_instances assumption);(first|((with_reducible apply St.vu);(with_reducible assumption);(with_reducible assumption))|((with_reducible apply St.zM);(with_reducible assumption);(with_reducible assumption);(repeat (first|exact mQ|apply mP))));(exact jA.h);rfl;rfl;(exact iQ);(decide +kernel))
      | ((with_reducible apply ia.OC);rfl;(with_reducible_and_instances assumption);(first|((with_reducible apply St.vu);(with_reducible assumption);(with_reducible assumption))|((with_reducible apply St.zM);(with_reducible assumption);(with_reducible assumption);(repeat (first|exact mQ|apply mP))));(exact jA.h);rfl;rfl;(exact iQ);(decide +kernel)))
    exact a ()):B:=f fun _=>a
theorem QW{A B:Prop}(a:A)(f:(Unit->A)->B:=by
    intro a
    with_reducible apply AW.O2
    (first
      | ((apply AW.gN 0);(first|exact Nx.set _ _|exact Nx.start _);rfl;rfl;refine H5 ?_)
      | ((apply AW.gY 0);(first|exact Nx.set _ _|exact Nx.start _);rfl;rfl;rfl;rfl;(first|assumption|rfl);refine H5 ?_)
      | ((apply AW.gN 1);(first|exact Nx.set _ _|exact Nx.start _);rfl;(decide +kernel);refine H5 ?_)
      | ((apply AW.gY 1);(first|exact Nx.set _ _|exact Nx.start _);rfl;(decide +kernel);rfl;rfl;(first|assumption|rfl);refine H5 ?_)
      | ((apply AW.gN 2);(first|exact Nx.set _ _|exact Nx.start _);rfl;(decide +kernel);refine H5 ?_)
      | ((apply AW.gY 2);(first|exact Nx.set _ _|exact Nx.start _);rfl;(decide +kernel);rfl;rfl;(first|assumption|rfl);refine H5 ?_))
    exact a ()):B:=f fun _=>a
end
def BB:List Item->Nat->List Nat->List Nat
  | [],_,_=>[]
  | _::L,j,is=>bif is.any (Nat.beq j)then BB L (j+1) is else j::BB L (j+1) is
theorem CK{L R:List Item}{js:List Nat}:∀{is:List Nat} {M:List Item},iV L is=some M->iV L js=some R->iV L (is++js)=some (M++R)
  | [],_,h,k=>by cases h;exact k
  | i::is,M,h,k=>by
    unfold iV at h;split at h
    · rename_i x m h1 h2;cases h;rw[List.cons_append];unfold iV;rw[h1,CK h2 k];rfl
    · cases h
theorem LW.kE{f:FuncId}[c:Ct P f]{as:Array Operand}{ts:Array TypeId}{al:List Value}{K:List Nat->Value->World->Prop}{A:Prop}{M R:List Item}{is:List Nat}(a:Unit->A)(hS:St w0 F0 w L)
    (q:∀F,mS w0 F0 w M R F->c.T->dj P f al.toArray w (K F)) (x:∀F,mS w0 F0 w M R F->KX (K F) (fun v w'=>LW P n ops Q rest (dM e ((d,v)::l)) w') A) (hd:Nat.ble (d+1) n=true) (hargs:xv l as.toList al)
    (hsel:za L is M) (hR:iV L (BB L 0 is)=some R) (hn:oU (is++BB L 0 is)=true) :
    LW P n ops Q (⟨some d,.call { callee:=.value (.func f),args:=as,argTypes:=ts },ty,pos,aft,none⟩::rest) (dM e l) w:=by
  obtain⟨F,hL⟩:=(hS.pick (is++BB L 0 is) (CK hsel.eq hR) hn).Oo;exact LW.cl (q F hL c.h) (fun v w' hk=>x F hL a v w' hk) c.p hd hargs.eq
theorem KX.fE{M M' R:List Item}{F:List Nat}{G:Value->World->Prop}{u:Value}{A:World->Prop}(hL:mS w0 F0 w M R F)(k:∀w',St w0 F0 w' (M'++R)->(Unit->A w')->G u w'):KX (fun v w'=>v=u/\St w F w' M') G (∀w',St w0 F0 w' (M'++R)->A w'):=fun a v w' ⟨h1,h2⟩=>by
  subst h1;exact k w' (hL.back _ _ h2) fun _=>a () w' (hL.back _ _ h2)
theorem mS.rM{α:Type}[dv α]{M R:List Item}{F:List Nat}{a:Option Addr}{c:Nat}{m:List α}(h:mS w0 F0 w M R F)(hm:∃i:Nat,R[i]?=some (sl a c m)):ee (eT w F) w a c m:=by
  obtain⟨i,hi⟩:=hm;exact h.rI i hi
theorem mS.HJ{α:Type}[dv α]{M R:List Item}{F Fz:List Nat}{w1:World}{a:Option Addr}{c:Nat}{m:List α}(h:mS w0 F0 w M R F)(hr:ee (fun b=>b∈Fz) w1 a c m)(hm:∃i:Nat,R[i]?=some (fz w1 Fz)):ee (eT w F) w a c m:=by
  obtain⟨i,hi⟩:=hm;exact h.rZ i hi hr
theorem mS.MO{α:Type}[dv α]{M R:List Item}{F Fz:List Nat}{w1:World}{a:Option Addr}{c:Nat}{m:List α}(h:mS w0 F0 w M R F)(hr:kC w1 a c Fz m)(hm:∃i:Nat,R[i]?=some (fz w1 Fz)):ee (eT w F) w a c m:=h.HJ hr.fw hm
theorem rt{B:Prop}(f:B:=by
    refine go ?_
    first|cases h|skip
    repeat' (first
      | exact trivial
      | ((with_reducible apply ib.at);(first|apply ib.one|apply ib.two|apply ib.three|apply ib.four|exact ib.zero))
      | ((with_reducible apply dK.at);(first|exact dK.t rfl|((apply dK.bM);(exact rfl);(with_reducible assumption);(repeat (first|exact mQ|apply mP));(exact jA.h);(exact rfl))|((apply dK.cM);(exact rfl);(with_reducible assumption);(repeat (first|exact mQ|apply mP));(exact jA.h);(exact rfl))))
      | ((with_reducible apply St.Q2);(with_reducible assumption);(repeat (first|exact za.nil|((apply za.cons);(repeat (first|exact Qm|apply Qo)))));(exact rfl))
      | apply And.intro
      | apply Exists.intro
      | exact rfl)):B:=f
theorem LW.Q1{dd:Option Tmp}{op:Op}{g:Option (Nat×Bool)}(h:LW P n ops Q (⟨dd,op,ty,pos,aft,g⟩::rest) e w):LW P n ops Q (⟨dd,op,ty,pos,aft,g⟩::rest) e w:=h
theorem LW.QY{r:List Oper}{dd:Option Tmp}{op:Op}{g:Option (Nat×Bool)}(hr:r=⟨dd,op,ty,pos,aft,g⟩::rest)(h:LW P n ops Q (⟨dd,op,ty,pos,aft,g⟩::rest) e w):LW P n ops Q r e w:=by subst hr;exact h
theorem CW.QI{id:Nat}{lo:List Oper}(hg:lo.all (fun o=>o.guard.isNone)=true)(h:CW P n (.region id lo.toArray false) Q e w):CW P n (.region id lo.toArray false) Q e w:=h
theorem T{A B:Prop}(a:A)(f:(Unit->A)->B:=by
    intro a
    repeat (first
      | ((with_reducible apply CW.nr);(repeat first|(with_reducible exact rfl)|(with_reducible apply yS)))
      | with_reducible apply CW.seq
      | with_reducible apply M6
      | with_reducible apply MW
      | with_reducible apply MF
      | with_reducible apply MX
      | with_reducible apply MI
      | with_reducible apply MC
      | ((with_reducible apply MV);(exact rfl))
      | with_reducible apply CW.region
      | with_reducible apply CW.skip
      | with_reducible apply CW.block
      | with_reducible apply CW.exit
      | (with_reducible apply CW.ret))
    repeat (first
      | ((with_reducible apply LW.nr);(repeat first|(with_reducible exact rfl)|(with_reducible apply yS)))
      | ((with_reducible apply LW.yes);rfl;rfl;(first|assumption|rfl))
      | ((with_reducible apply LW.no);rfl;rfl;(first|assumption|rfl);rfl)
      | ((with_reducible apply LW.mv);rfl;rfl)
      | ((with_reducible apply LW.fa);(exact gM.h);rfl;rfl)
      | ((with_reducible apply LW.ld);rfl;assumption;(repeat (first|exact mQ|apply mP));(exact jA.h);rfl;rfl)
      | ((with_reducible apply LW.bin);rfl;rfl;rfl;rfl)
      | ((with_reducible apply LW.Kl);rfl;(first|assumption|rfl);rfl;rfl)
      | ((with_reducible apply LW.K1);rfl;(first|assumption|rfl);rfl;rfl)
      | ((with_reducible apply LW.as);rfl;rfl)
      | ((with_reducible apply LW.KU);rfl;assumption;(repeat (first|exact mQ|apply mP));(exact jA.h);rfl;rfl;(exact iQ))
      | ((with_reducible apply LW.len);(exact r6.h);rfl;rfl)
      | ((with_reducible apply LW.JJ);(exact r6.h);(exact vh.h);rfl;rfl;assumption;assumption;rfl)
      | ((with_reducible apply LW.Pz);rfl;rfl;rfl)
      | ((with_reducible apply LW.ext);rfl;rfl;rfl)
      | ((with_reducible apply LW.not);rfl;rfl)
      | ((with_reducible apply LW.neg);rfl;rfl)
      | ((with_reducible apply LW.Pp);rfl;(with_reducible_and_instances assumption);(first|((with_reducible apply St.vu);(with_reducible assumption);(with_reducible assumption))|((with_reducible apply St.zM);(with_reducible assumption);(with_reducible assumption);(repeat (first|exact mQ|apply mP))));(exact jA.h);rfl;rfl)
      | ((with_reducible apply LW.Pw);rfl;(with_reducible_and_instances assumption);(first|((with_reducible apply St.vu);(with_reducible assumption);(with_reducible assumption))|((with_reducible apply St.zM);(with_reducible assumption);(with_reducible assumption);(repeat (first|exact mQ|apply mP))));(exact jA.h);rfl;rfl)
      | ((with_reducible apply LW.Og);rfl;(with_reducible_and_instances assumption);(first|((with_reducible apply St.vu);(with_reducible assumption);(with_reducible assumption))|((with_reducible apply St.zM);(with_reducible assumption);(with_reducible assumption);(repeat (first|exact mQ|apply mP))));(exact jA.h);rfl;rfl;(exact iQ))
      | ((with_reducible apply LW.OC);rfl;(with_reducible_and_instances assumption);(first|((with_reducible apply St.vu);(with_reducible assumption);(with_reducible assumption))|((with_reducible apply St.zM);(with_reducible assumption);(with_reducible assumption);(repeat (first|exact mQ|apply mP))));(exact jA.h);rfl;rfl;(exact iQ))
      | ((with_reducible apply LW.sT a);rfl;assumption;(repeat (first|apply Ud.hd|apply Ud.tl));(exact jA.h);rfl;(exact iQ);rfl;rfl;rfl;(exact iQ);(clear a);intro w s a)
      | ((with_reducible apply LW.bT a);rfl;(exact iQ);assumption;rfl;(clear a);intro g w s a)
      | ((with_reducible apply LW.aT a);(exact iQ);assumption;rfl;(clear a);intro g w s a)
      | ((with_reducible apply LW.Oy);(apply gK (by first|with_reducible exact h|exact h) a);(clear a);(intro y hy h a);(with_reducible apply LW.kL a);(intro t;apply t;(with_reducible exact hy));(case hargs=>(repeat (first|exact xv.nil|(apply xv.cons;rfl))));(case hd=>exact rfl);
          (repeat (first|exact rfl|exact dB (oi (by with_reducible assumption))|((with_reducible apply St.rB);(with_reducible assumption);(with_reducible assumption))|((with_reducible apply St.rM);(with_reducible assumption);(repeat (first|exact mQ|apply mP));with_reducible fail_if_success (apply MN))|((with_reducible apply St.HJ);(with_reducible assumption);(with_reducible assumption);(repeat (first|exact mQ|apply mP)))|((with_reducible apply St.MO);(with_reducible assumption);(with_reducible assumption);(repeat (first|exact mQ|apply mP)))));
          (clear a);(repeat ((with_reducible apply KX.ex);intro c));(first|((with_reducible apply KX.f0);(with_reducible assumption))|((with_reducible apply KX.f1);(with_reducible assumption)));intro w s a)
      | ((with_reducible apply LW.Oy);(apply gK (by first|with_reducible exact h|exact h) a);(clear a);(intro y hy h a);(with_reducible apply LW.kE a);(with_reducible assumption);(intro F u t;apply t;(with_reducible exact hy));(case hargs=>(repeat (first|exact xv.nil|(apply xv.cons;rfl))));(case hd=>exact rfl);(all_goals (try (with_reducible apply mS.st u)));
          (case hsel=>(repeat (first|exact za.nil|((apply za.cons);(repeat (first|exact Qm|apply Qo))))));(case hR=>exact rfl);(case hn=>exact rfl);
          (repeat (first|exact rfl|exact dB (oi (by with_reducible assumption))|((with_reducible apply mS.rB);(with_reducible assumption);(with_reducible assumption))|((with_reducible apply mS.rM);(with_reducible assumption);(repeat (first|exact mQ|apply mP));with_reducible fail_if_success (apply MN))|((with_reducible apply mS.HJ);(with_reducible assumption);(with_reducible assumption);(repeat (first|exact mQ|apply mP));with_reducible fail_if_success (apply MN))|((with_reducible apply mS.MO);(with_reducible assumption);(with_reducible assumption);(repeat (first|exact mQ|apply mP)))));
          (intro F u);(clear a);(repeat ((with_reducible apply KX.ex);intro c));((with_reducible apply KX.fE);(with_reducible assumption));intro w s a)
      | ((with_reducible apply LW.Oy);(with_reducible apply LW.kL a);(intro t;apply t;(with_reducible assumption));(case hargs=>(repeat (first|exact xv.nil|(apply xv.cons;rfl))));(case hd=>exact rfl);
          (repeat (first|exact rfl|exact dB (oi (by with_reducible assumption))|((with_reducible apply St.rB);(with_reducible assumption);(with_reducible assumption))|((with_reducible apply St.rM);(with_reducible assumption);(repeat (first|exact mQ|apply mP));with_reducible fail_if_success (apply MN))|((with_reducible apply St.HJ);(with_reducible assumption);(with_reducible assumption);(repeat (first|exact mQ|apply mP)))|((with_reducible apply St.MO);(with_reducible assumption);(with_reducible assumption);(repeat (first|exact mQ|apply mP)))));
          (clear a);(repeat ((with_reducible apply KX.ex);intro c));(first|((with_reducible apply KX.f0);(with_reducible assumption))|((with_reducible apply KX.f1);(with_reducible assumption)));intro w s a)
      | ((with_reducible apply QZ);(repeat (first|exact jZ|((with_reducible apply Kept.c);(case h=>(first|((with_reducible apply St.cA);(with_reducible assumption);(repeat (first|exact mQ|apply mP));done)|((with_reducible apply St.vu);(with_reducible assumption);(with_reducible assumption))|((with_reducible apply St.zM);(with_reducible assumption);(with_reducible assumption);(repeat (first|exact mQ|apply mP));done))))|((with_reducible apply Kept.w);(decide +kernel)))))
      | with_reducible apply LW.nil
      | ((with_reducible apply CW.nr);(repeat first|(with_reducible exact rfl)|(with_reducible apply yS)))
      | with_reducible apply CW.seq
      | with_reducible apply M6
      | with_reducible apply MW
      | with_reducible apply MF
      | with_reducible apply MX
      | with_reducible apply MI
      | with_reducible apply MC
      | ((with_reducible apply MV);(exact rfl))
      | ((with_reducible apply CW.QI);rfl;(with_reducible apply CW.region))
      | with_reducible apply CW.skip
      | with_reducible apply CW.exit
      | (with_reducible apply CW.ret)
      | ((with_reducible apply AW.nr);(repeat first|(with_reducible exact rfl)|(with_reducible apply yS)))
      | refine gA ?_
      | refine QW ?_
      | ((with_reducible apply AW.O2);(first|((apply AW.oN 0);(first|exact Nx.set _ _|exact Nx.start _);rfl;(decide +kernel);(decide +kernel))|((apply AW.oN 1);(first|exact Nx.set _ _|exact Nx.start _);rfl;(decide +kernel);(decide +kernel))|((apply AW.oN 2);(first|exact Nx.set _ _|exact Nx.start _);rfl;(decide +kernel);(decide +kernel))))
      | ((fail_if_success (with_reducible apply LW.Q1));(with_reducible apply LW.QY);rfl))
    exact a ()):B:=f fun _=>a
end
theorem wk{B:Prop}(f:B:=by
    repeat' (first
      | (refine gc h ?_ ?_<;>intro _ h)
      | (refine gB h ?_ ?_<;>intro _ h)
      | (refine T ?_;intro _;intros;have h:=‹_=some _›)
      | exact rt
      | (refine bH h ?_ ?_<;>intro _ h))):B:=f
end Go.Kx
