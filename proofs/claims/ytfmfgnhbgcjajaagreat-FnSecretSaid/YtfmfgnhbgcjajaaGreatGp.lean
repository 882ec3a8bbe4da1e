import Derived.Test.YtfmfgnhbgcjajaaGreatGo
import Derived.Test.YtfmfgnhbgcjajaaGreatDat
namespace Go.Kx
open Go Go.RowKit
set_option linter.unusedVariables false
set_option linter.unusedSimpArgs false
section
variable {P:Program} {n:Nat} {Q:iO} {e:Env} {w w0:World} {F0:List Nat} {A B:Prop} {α:Type}
theorem gc{y z:Option α}{r:α}{b:Bool}{c1 c2:Code}{x:Operand}(h:(bif b then y else z)=some r)(h1:b=true->y=some r->CW P n c1 Q e w)(h2:b=false->z=some r->CW P n c2 Q e w)(f:autoParam ((Unit->CW P n (.cond x c1 c2) Q e w)->B) go._auto_1)(hx:ev e x=.bool b:=by rfl):B:=f fun _=>ch h h1 h2 hx
theorem gB{y z:Option α}{r:α}{b:Bool}(h:(bif b then y else z)=some r)(h1:b=true->y=some r->A)(h2:b=false->z=some r->A)(f:autoParam ((Unit->A)->B) go._auto_1):B:=f fun _=>by
  cases b
  · exact h2 rfl h
  · exact h1 rfl h
theorem bH{y z:Option α}{r:α}{b:Bool}(h:(bif b then y else z)=some r)(h1:b=true->y=some r->A)(h2:b=false->z=some r->A):A:=by
  cases b
  · exact h2 rfl h
  · exact h1 rfl h
theorem AW.ux{ops:Array Oper}{fuel:Nat}{E:nG}{listed:Array Bool}{i d:Nat}{ty:TypeId}{pos:String}{aft:Array Edge}{g:Option (Nat×Bool)}{v:Value}{op:Op}(hn:listed[i]?=some false)(hi:ops[i]?=some ⟨some d,op,ty,pos,aft,g⟩)(hok:gR ops listed i=true)(hw:nA ops g e=true)(hd:Nat.ble (d+1) n=true)
    (hl:dL P (ev e) op v) (h:AW P n ops Q fuel E (listed.setIfInBounds i true) (im e d v) w):AW P n ops Q (fuel+1) E listed e w:=AW.u hi hok hw hd hl h
theorem St.cA{L:List Item}{g:Nat}{ty:TypeId}{cs:List Value}(h:St w0 F0 w L)(hm:∃i:Nat,L[i]?=some (bx g ty cs)):w.heap[g]?=some (.cells cs.toArray ty (0,0)):=by
  obtain⟨i,hi⟩:=hm;exact St.cell (h:=h) hi
theorem jn{ops:Array Oper}{fuel:Nat}{E:nG}{listed:Array Bool}{j:Nat}{w':World}(h:AW P n ops Q fuel E (listed.setIfInBounds j true) e w')(k:Kept ops j E w w':=by repeat (first|exact jZ|(refine Kept.c (St.cA (by assumption) (by repeat (first|exact mD|apply mE))) ?_)|(refine jW ?_))):
    LW P n ops (fun x e' w2=>x=.normal/\Kept ops j E w w2/\AW P n ops Q fuel E (listed.setIfInBounds j true) e' w2) [] e w':=jN k h
theorem eo{m:List (Nat×Value)}{A:Prop}(h:En e m/\A):∃e',e=dF e' m/\A:=by
  obtain⟨e',he⟩:=h.1.out;exact⟨e',he,h.2⟩
theorem LW.bd{ops:Array Oper}{rest:List Oper}{d:Nat}{ty:TypeId}{pos:String}{aft:Array Edge}{t:TypeId}{parts:Array (Nat×Operand)}(vs:List (Nat×Value))(cs:Array Value)(h:LW P n ops Q rest (im e d (.agg cs)) w)(hp:parts.toList.map (fun p=>(p.1,ev e p.2))=vs:=by exact rfl)(hb:P.built t vs=some cs:=by kernel_rfl)(hd:Nat.ble (d+1) n=true:=by exact rfl):
    LW P n ops Q (⟨some d,.build t parts,ty,pos,aft,none⟩::rest) e w:=LW.u (dL.build hp hb) hd h
theorem AW.tk{ops:Array Oper}{fuel:Nat}{E:nG}{listed:Array Bool}{d:Nat}{ty:TypeId}{pos:String}{aft:Array Edge}{g:Option (Nat×Bool)}{v:Value}{op:Op}{C:World->Prop}(i:Nat)(hi:ops[i]?=some ⟨some d,op,ty,pos,aft,g⟩)(hl:fv P (ev e) op C v)(hC:C w)(h:AW P n ops Q fuel ((i,C)::E) (listed.setIfInBounds i true) (im e d v) w)
    (hok:gR ops listed i=true:=by kernel_rfl) (hw:nA ops g e=true:=by exact rfl) (hd:Nat.ble (d+1) n=true:=by exact rfl):AW P n ops Q (fuel+1) E listed e w:=AW.take hi hok hw hd hl hC h
theorem Hh{w:World}:∀l:List Int,fQ w (l.map (Value.int .i64)) [] l
  | []=>rfl
  | x::l=>⟨[.int .i64 x],l.map (Value.int .i64),[],[],rfl,rfl,⟨rfl,rfl⟩,Hh l⟩
theorem LW.bi{ops:Array Oper}{rest:List Oper}{d:Nat}{ty:TypeId}{pos:String}{aft:Array Edge}{L:List Item}{t:TypeId}{len:Nat}{parts:Array (Nat×Operand)}(l:List Int)(hS:St w0 F0 w L)(h:∀(a:Option Addr) (c:Nat) (w':World),St w0 F0 w' (sl a c l::L)->Fr w w' []->LW P n ops Q rest (im e d (.slice a l.length c)) w')
    (hp:parts.toList.map (fun p=>(p.1,ev e p.2))=l.zipIdx.map (fun p=>(p.2,Value.int .i64 p.1)):=by exact rfl) (hb:yj P t len (l.zipIdx.map fun p=>(p.2,Value.int .i64 p.1))=some (dp.ty Int,(l.map (Value.int .i64)).toArray):=by kernel_rfl) (hl:l.length=len:=by exact rfl) (hL:Nat.ble len 65536=true:=by exact rfl) (hd:Nat.ble (d+1) n=true:=by exact rfl) :
    LW P n ops Q (⟨some d,.buildSlice t len parts,ty,pos,aft,none⟩::rest) e w:=LW.wX hp hb hl (by subst hl;show(l.map (Value.int .i64)).toArray.size=l.length*1;simp) hL (fun w=>Hh l) hS hd h
theorem LW.b0[dp α]{ops:Array Oper}{rest:List Oper}{d:Nat}{ty:TypeId}{pos:String}{aft:Array Edge}{L:List Item}{t:TypeId}{parts:Array (Nat×Operand)}(hS:St w0 F0 w L)(h:∀(a:Option Addr) (c:Nat) (w':World),St w0 F0 w' (sl a c ([]:List α)::L)->Fr w w' []->LW P n ops Q rest (im e d (.slice a ([]:List α).length c)) w')
    (hp:parts.toList.map (fun p=>(p.1,ev e p.2))=[]:=by exact rfl) (hb:yj P t 0 []=some (dp.ty α, #[]):=by kernel_rfl) (hd:Nat.ble (d+1) n=true:=by exact rfl) :
    LW P n ops Q (⟨some d,.buildSlice t 0 parts,ty,pos,aft,none⟩::rest) e w:=LW.wX (l:=([]:List α)) hp hb rfl (by simp) rfl (fun w=>rfl) hS hd h
-- fused
section
variable {ops:Array Oper} {rest:List Oper} {fuel:Nat} {E:nG} {listed:Array Bool} {d:Nat} {ty:TypeId} {pos:String} {aft:Array Edge} {v:Value} {l:List (Nat×Value)} {L:List Item} {j:Nat}
theorem sC{E:Env}{t bt:TypeId}{x y:Operand}{a:Option Nat}{g o:Nat}{cs vs cs':List Value}{L':List Item}(hS:St w0 F0 w L)(i:Nat)(h:∀w':World,St w0 F0 w' L'->LW P n ops Q rest (dF e l) w')
    (f:autoParam ((Unit->LW P n ops Q (⟨none,.store t x y,ty,pos,aft,none⟩::rest) E w)->B) go._auto_1) (hE:E=dF e l:=by exact tJ) (hx:il l x=some (.pointer (some ⟨g,o,none⟩)):=by rfl) (hi:L[i]?=some (bx g bt cs):=by rfl) (ht:fx P t=some a:=by exact iY.h) (hy:il l y=some v:=by rfl) (hv:Nf v.cells.toList vs:=by exact iJ) (hm:vs.length=a.getD 1:=by rfl) (hl:Nat.ble (o+vs.length) cs.length=true:=by rfl) (h1:vs.all (·.oneCell')=true:=by rfl) (hc:Nf (xS cs o vs) cs':=by exact iJ) (hL:Nf (L.set i (bx g bt cs')) L':=by exact iJ):B:=f fun _=>LW.st hS i h hE hx hi ht hy hv hm hl h1 hc hL
theorem we{E:Env}{t:TypeId}{x:Operand}{cs:List Value}(hS:St w0 F0 w L)(h:∀(g:Nat) (w':World),St w0 F0 w' (bx g t cs::L)->LW P n ops Q rest (dF e ((d,.pointer (some ⟨g,0,none⟩))::l)) w')
    (f:autoParam ((Unit->LW P n ops Q (⟨some d,.box t x,ty,pos,aft,none⟩::rest) E w)->B) go._auto_1) (hE:E=dF e l:=by exact tJ) (hx:il l x=some v:=by rfl) (hv:Nf v.cells.toList cs:=by exact iJ) (hd:Nat.ble (d+1) n=true:=by rfl):B:=f fun _=>LW.bo hS h hE hx hv hd
theorem gf{E:Env}{m:List (Nat×Value)}{c:Code}(ds:List Nat)(k:∀e',CW P n c Q (dF e' m) w)
    (f:autoParam ((Unit->CW P n c Q E w)->B) go._auto_1) (hE:E=dF e l:=by exact tJ) (h:px l ds m:=by exact vv):B:=f fun _=>CW.fl ds k hE h
theorem Cx{o:Oper}(i:Nat)(h:LW P n ops (fun x e' w'=>x=.normal/\Kept ops i E w w'/\AW P n ops Q fuel E (listed.setIfInBounds i true) e' w') [o] e w)
    (f:autoParam ((Unit->AW P n ops Q (fuel+1) E listed e w)->B) go._auto_1) (ho:ops[i]?=some o:=by rfl) (hr:Region.ready .any ops listed=[i]:=by kernel_rfl):B:=f fun _=>jO i h ho hr
theorem dW{id:Nat}{lo:List Oper}(h:AW P n lo.toArray Q lo.length [] (Array.replicate lo.length false) e w.drew)(hm:P.follows .mixedOrders=true:=by kernel_rfl):CW P n (.region id lo.toArray true) Q e w:=CW.draw hm h
theorem fA{id:Nat}{lo:List Oper}(h:AW P n lo.toArray Q lo.length [] (Array.replicate lo.length false) e w.drew)(f:autoParam ((Unit->CW P n (.region id lo.toArray true) Q e w)->B) go._auto_1)(hm:P.follows .mixedOrders=true:=by kernel_rfl):B:=f fun _=>CW.draw hm h
theorem fm{t:TypeId}{parts:Array (Nat×Operand)}(vs:List (Nat×Value))(cs:Array Value)(h:LW P n ops Q rest (im e d (.agg cs)) w)(f:autoParam ((Unit->LW P n ops Q (⟨some d,.build t parts,ty,pos,aft,none⟩::rest) e w)->B) go._auto_1)(hp:parts.toList.map (fun p=>(p.1,ev e p.2))=vs:=by exact rfl)(hb:P.built t vs=some cs:=by kernel_rfl)(hd:Nat.ble (d+1) n=true:=by exact rfl):
    B:=f fun _=>LW.u (dL.build hp hb) hd h
end
-- end fused
theorem tt{t:Nat}:dE P e w (.tmp t) (e t):=rfl
theorem rx{t:Nat}{K:Value->Prop}(k:K (e t)):∃v,gL P #[.tmp t] e w v/\K v:=⟨_,gL.one rfl,k⟩
theorem Ra{t:Nat}{K:Value->Prop}(k:K (e t)):True/\∃v,gL P #[.tmp t] e w v/\K v:=⟨trivial,_,gL.one rfl,k⟩
theorem ry{r s:ResultVar}{u v:Value}{K:Value->Prop}(h:dE P e w r u)(k:dE P e w s v)(q:K (.tuple #[u,v])):∃v,gL P #[r,s] e w v/\K v:=⟨_,gL.two h k,q⟩
theorem Rc{r s:ResultVar}{u v:Value}{K:Value->Prop}(h:dE P e w r u)(k:dE P e w s v)(q:K (.tuple #[u,v])):True/\∃v,gL P #[r,s] e w v/\K v:=⟨trivial,_,gL.two h k,q⟩
end
section
variable {α:Type} [dp α] {w w0:World} {F0:List Nat}
theorem St.mb{a:Option Addr}{c k:Nat}{l:List α}{cs:List Value}{Z X R:List Item}(h:St w0 F0 w Z)(y:α)(is:List Nat)(m i:Nat)(hp:iK Z is=some X)(hi:X[m+i]?=some (hole α a c l k cs))(hM:∀(w:World) (G:List Nat),eH (X.take m) w G->dp.own w cs G y)
    (hn:oF is=true:=by exact rfl) (hR:Nf ((X.drop m).set i (sl a c (l.set k y))) R:=by exact iJ):St w0 F0 w R:=by
  cases hR.eq;have h2:=h.pick is hp hn;rw[<- List.take_append_drop m X]at h2;exact h2.NX i (by rw[List.getElem?_drop];exact hi) hM
end
abbrev qP(a0:Ad)(c0:Nat)(a1:Ad)(c1:Nat)(a2:Ad)(c2:Nat)(a3:Ad)(c3:Nat)(a4:Ad)(c4:Nat)(a5:Ad)(c5:Nat)(x:bh):List Value:=[vS a0 x.Rp.Ro.length c0,vS a1 x.own.length c1,vS a2 x.Rr.length c2,vS a3 x.py.ag.length c3,vI x.py.gc.Ru,vI x.py.gc.RD,vI x.py.gc.Rv,vS a4 x.py.gc.da.length c4,vS a5 x.db.length c5,vI x.RA,vI x.Rz,vI x.dc.cd,vI x.dc.dg,vI x.dc.dn,vI x.du,vI x.Rx]
abbrev qO(a0:Ad)(c0:Nat)(a1:Ad)(c1:Nat)(a2:Ad)(c2:Nat)(x:c6):List Value:=[vI x.RG,vI x.Rq,vI x.box,vI x.RF,vI x.dY,vI x.cd,vI x.Ry,vI x.ee,vI x.ed,.bool x.mark,vS a0 x.dk.length c0,vS a1 x.Rw.length c1,vS a2 x.Rs.length c2]
abbrev qC(a0:Ad)(c0:Nat)(a1:Ad)(c1:Nat)(a2:Ad)(c2:Nat)(a3:Ad)(c3:Nat)(a4:Ad)(c4:Nat)(a5:Ad)(c5:Nat)(x:dN):List Value:=[vS a0 x.Rn.Rp.Ro.length c0,vS a1 x.Rn.own.length c1,vS a2 x.Rn.Rr.length c2,vS a3 x.Rn.py.ag.length c3,vI x.Rn.py.gc.Ru,vI x.Rn.py.gc.RD,vI x.Rn.py.gc.Rv,vS a4 x.Rn.py.gc.da.length c4,vS a5 x.Rn.db.length c5,vI x.Rn.RA,vI x.Rn.Rz,vI x.Rn.dc.cd,vI x.Rn.dc.dg,vI x.Rn.dc.dn,vI x.Rn.du,vI x.Rn.Rx,vI x.me,vI x.RB,vI x.dS]
abbrev qL(x:dD):List Value:=[vI x.Rq,vI x.a,vI x.b,vI x.c,vI x.d,vI x.e]
abbrev qE(x:dQ):List Value:=[vI x.Rq,vI x.Rn,vI x.dS,vI x.call.Rq,vI x.call.a,vI x.call.b,vI x.call.c,vI x.call.d,vI x.call.e]
abbrev qH(a0:Ad)(c0:Nat)(a1:Ad)(c1:Nat)(x:dm):List Value:=[vS a0 x.ag.length c0,vI x.gc.Ru,vI x.gc.RD,vI x.gc.Rv,vS a1 x.gc.da.length c1]
abbrev qB(a0:Ad)(c0:Nat)(a1:Ad)(c1:Nat)(x:dK):List Value:=[vS a0 x.Rp.Ro.length c0,vS a1 x.own.length c1,vI x.eV.cd,vI x.eV.dg,vI x.eV.dn]
abbrev qT(x:ef):List Value:=[vI x.RF,vI x.eP,vI x.mB,vI x.gP,vI x.Rq,vI x.jx]
abbrev uP(a0:Ad)(n0 c0:Nat)(a1:Ad)(n1 c1:Nat)(a2:Ad)(n2 c2:Nat)(a3:Ad)(n3 c3:Nat)(a4:Ad)(n4 c4:Nat)(a5:Ad)(n5 c5:Nat)(x:bh):Array Value:=#[vS a0 n0 c0,vS a1 n1 c1,vS a2 n2 c2,vS a3 n3 c3,vI x.py.gc.Ru,vI x.py.gc.RD,vI x.py.gc.Rv,vS a4 n4 c4,vS a5 n5 c5,vI x.RA,vI x.Rz,vI x.dc.cd,vI x.dc.dg,vI x.dc.dn,vI x.du,vI x.Rx]
abbrev uO(a0:Ad)(n0 c0:Nat)(a1:Ad)(n1 c1:Nat)(a2:Ad)(n2 c2:Nat)(x:c6):Array Value:=#[vI x.RG,vI x.Rq,vI x.box,vI x.RF,vI x.dY,vI x.cd,vI x.Ry,vI x.ee,vI x.ed,.bool x.mark,vS a0 n0 c0,vS a1 n1 c1,vS a2 n2 c2]
abbrev uL(x:dD):Array Value:=#[vI x.Rq,vI x.a,vI x.b,vI x.c,vI x.d,vI x.e]
abbrev uE(x:dQ):Array Value:=#[vI x.Rq,vI x.Rn,vI x.dS,vI x.call.Rq,vI x.call.a,vI x.call.b,vI x.call.c,vI x.call.d,vI x.call.e]
abbrev uH(a0:Ad)(n0 c0:Nat)(a1:Ad)(n1 c1:Nat)(x:dm):Array Value:=#[vS a0 n0 c0,vI x.gc.Ru,vI x.gc.RD,vI x.gc.Rv,vS a1 n1 c1]
abbrev uB(a0:Ad)(n0 c0:Nat)(a1:Ad)(n1 c1:Nat)(x:dK):Array Value:=#[vS a0 n0 c0,vS a1 n1 c1,vI x.eV.cd,vI x.eV.dg,vI x.eV.dn]
abbrev uT(x:ef):Array Value:=#[vI x.RF,vI x.eP,vI x.mB,vI x.gP,vI x.Rq,vI x.jx]
class Ct (P:Program) (f:FuncId) where
  {T:Prop}
  p:tO P f=true:=by kernel_rfl
  h:T
def KX(K G:Value->World->Prop)(A:Prop):Prop:=(Unit->A)->∀v w,K v w->G v w
theorem KX.ex{γ:Type}{K:γ->Value->World->Prop}{G:Value->World->Prop}{A:γ->Prop}(h:∀c,KX (K c) G (A c)):KX (fun v w=>∃c,K c v w) G (∀c,A c):=fun a v w ⟨c,hc⟩=>h c (fun _=>a () c) v w hc
inductive w9 (l:List (Nat×Value)):List Operand->List Value->Prop
  | nil:w9 l [] []
  | cons {x:Operand} {v:Value} {xs:List Operand} {vs:List Value} (h:il l x=some v) (t:w9 l xs vs):w9 l (x::xs) (v::vs)
theorem w9.eq{e:Env}{l:List (Nat×Value)}:∀{xs:List Operand} {vs:List Value},w9 l xs vs->xs.map (ev (dF e l))=vs
  | _,_,.nil=>rfl
  | _,_,.cons h t=>by rw[List.map_cons,eY h,t.eq]
inductive Ud (g:Nat) (bt:TypeId) (cs cs':List Value):List Item->List Item->Prop
  | hd {L:List Item}:Ud g bt cs cs' (bx g bt cs::L) (bx g bt cs'::L)
  | tl {x:Item} {L L':List Item} (h:Ud g bt cs cs' L L'):Ud g bt cs cs' (x::L) (x::L')
theorem Ud.ix{g:Nat}{bt:TypeId}{cs cs':List Value}:∀{L L':List Item},Ud g bt cs cs' L L'->∃i:Nat,L[i]?=some (bx g bt cs)/\L'=L.set i (bx g bt cs')
  | _,_,.hd=>⟨0,rfl,rfl⟩
  | _,_,.tl h=>by
    obtain⟨i,h1,h2⟩:=h.ix;exact⟨i+1,h1,by rw[h2];rfl⟩
inductive yn (L:List Item):List Nat->List Item->Prop
  | nil:yn L [] []
  | cons {i:Nat} {x:Item} {is:List Nat} {M:List Item} (h:L[i]?=some x) (t:yn L is M):yn L (i::is) (x::M)
theorem yn.eq{L:List Item}:∀{is:List Nat} {M:List Item},yn L is M->iK L is=some M
  | _,_,.nil=>rfl
  | _,_,.cons h t=>by unfold iK;rw[h,t.eq]
theorem MZ{L:List Item}{x:Item}(h:∃i:Nat,L[i]?=some x):∃i:Nat,L[i]?=some x:=h
theorem Qi{L:List Item}{x:Item}:(x::L)[0]?=some x:=rfl
theorem Ql{L:List Item}{x y:Item}{i:Nat}(h:L[i]?=some x):(y::L)[i+1]?=some x:=h
section
variable {P:Program} {n:Nat} {Q:iO} {e:Env} {l:List (Nat×Value)} {w w0:World} {F0:List Nat} {L L':List Item} {ops:Array Oper} {rest:List Oper} {ty:TypeId} {pos:String} {aft:Array Edge} {d:Nat} {v:Value}
theorem St.Ri{M:List Item}{is:List Nat}(h:St w0 F0 w L)(hs:yn L is M)(hn:oF is=true):St w0 F0 w M:=h.pick is hs.eq hn
theorem St.rM{α:Type}[dp α]{a:Option Addr}{c:Nat}{m:List α}(h:St w0 F0 w L)(hm:∃i:Nat,L[i]?=some (sl a c m)):dX (eJ w []) w a c m:=by
  obtain⟨i,hi⟩:=hm;exact h.rI i hi
theorem St.Hi{α:Type}[dp α]{a:Option Addr}{c:Nat}{m:List α}{w1:World}{F:List Nat}(h:St w0 F0 w L)(hr:dX (fun b=>b∈F) w1 a c m)(hm:∃i:Nat,L[i]?=some (fz w1 F)):dX (eJ w []) w a c m:=by
  obtain⟨i,hi⟩:=hm;exact h.rZ i hi hr
theorem St.M7{α:Type}[dp α]{a:Option Addr}{c:Nat}{m:List α}{w1:World}{F:List Nat}(h:St w0 F0 w L)(hr:jA w1 a c F m)(hm:∃i:Nat,L[i]?=some (fz w1 F)):dX (eJ w []) w a c m:=h.Hi hr.fe hm
theorem KX.f0{G:Value->World->Prop}{u:Value}{A:World->Prop}(hS:St w0 F0 w L)(k:∀w',St w0 F0 w' L->(Unit->A w')->G u w'):KX (fun v w'=>v=u/\St w [] w' []) G (∀w',St w0 F0 w' L->A w'):=fun a v w' ⟨h1,h2⟩=>by
  subst h1
  have h3:St w0 F0 w' L:=by simpa using hS.add h2
  exact k w' h3 fun _=>a () w' h3
theorem KX.f1{G:Value->World->Prop}{u:Value}{M:List Item}{A:World->Prop}(hS:St w0 F0 w L)(k:∀w',St w0 F0 w' (M++L)->(Unit->A w')->G u w'):KX (fun v w'=>v=u/\St w [] w' M) G (∀w',St w0 F0 w' (M++L)->A w'):=fun a v w' ⟨h1,h2⟩=>by
  subst h1;exact k w' (hS.add h2) fun _=>a () w' (hS.add h2)
theorem gK{α β:Type}{o:Option α}{g:α->Option β}{r:β}{A:α->Prop}{G:Prop}(h:o.bind g=some r)(a:Unit->∀x,o=some x->g x=some r->A x)(k:∀x,o=some x->g x=some r->(Unit->A x)->G):G:=by
  obtain⟨x,h1,h2⟩:=Option.bind_eq_some_iff.1 h;exact k x h1 h2 fun _=>a () x h1 h2
theorem LW.OS{f:FuncId}{as:Array Operand}{ts:Array TypeId}(h:LW P n ops Q (⟨some d,.call { callee:=.value (.func f),args:=as,argTypes:=ts },ty,pos,aft,none⟩::rest) e w):LW P n ops Q (⟨some d,.call { callee:=.value (.func f),args:=as,argTypes:=ts },ty,pos,aft,none⟩::rest) e w:=h
theorem LW.kL{f:FuncId}[c:Ct P f]{as:Array Operand}{ts:Array TypeId}{al:List Value}{K:Value->World->Prop}{A:Prop}(a:Unit->A)(q:c.T->di P f al.toArray w K)(x:KX K (fun v w'=>LW P n ops Q rest (dF e ((d,v)::l)) w') A)(hd:Nat.ble (d+1) n=true)(hargs:w9 l as.toList al):
    LW P n ops Q (⟨some d,.call { callee:=.value (.func f),args:=as,argTypes:=ts },ty,pos,aft,none⟩::rest) (dF e l) w:=LW.cl (q c.h) (fun v w' hk=>x a v w' hk) c.p hd hargs.eq
theorem LW.sT{t bt:TypeId}{x y:Operand}{av:Option Nat}{g o:Nat}{cs vs cs':List Value}{A:World->Prop}(a:Unit->∀w':World,St w0 F0 w' L'->A w')
    (hx:il l x=some (.pointer (some ⟨g,o,none⟩))) (hS:St w0 F0 w L) (hU:Ud g bt cs cs' L L') (ht:fx P t=some av) (hy:il l y=some v) (hv:Nf v.cells.toList vs) (hm:vs.length=av.getD 1) (hl:Nat.ble (o+vs.length) cs.length=true) (h1:vs.all (·.oneCell')=true) (hc:Nf (xS cs o vs) cs')
    (k:∀w':World,St w0 F0 w' L'->(Unit->A w')->LW P n ops Q rest (dF e l) w'):LW P n ops Q (⟨none,.store t x y,ty,pos,aft,none⟩::rest) (dF e l) w:=by
  obtain⟨i,h2,rfl⟩:=hU.ix;cases hv.eq;cases hc.eq;exact LW.Qm hS i h2 ht (eY hx) (by rw[eY hy]) hm hl h1 fun w' hS' _=>k w' hS' fun _=>a () w' hS'
theorem LW.bT{t:TypeId}{x:Operand}{cs:List Value}{A:Nat->World->Prop}(a:Unit->∀(g:Nat) (w':World),St w0 F0 w' (bx g t cs::L)->A g w')(hx:il l x=some v)(hv:Nf v.cells.toList cs)(hS:St w0 F0 w L)(hd:Nat.ble (d+1) n=true)
    (k:∀(g:Nat) (w':World),St w0 F0 w' (bx g t cs::L)->(Unit->A g w')->LW P n ops Q rest (dF e ((d,.pointer (some ⟨g,0,none⟩))::l)) w'):LW P n ops Q (⟨some d,.box t x,ty,pos,aft,none⟩::rest) (dF e l) w:=by
  cases hv.eq;exact LW.box (by rw[eY hx]) hS hd fun g w' hS' _=>k g w' hS' fun _=>a () g w' hS'
theorem LW.aT{t:TypeId}{cs:List Value}{A:Nat->World->Prop}[z:uk P t](a:Unit->∀(g:Nat) (w':World),St w0 F0 w' (bx g t cs::L)->A g w')(hv:Nf z.z.cells.toList cs)(hS:St w0 F0 w L)(hd:Nat.ble (d+1) n=true)
    (k:∀(g:Nat) (w':World),St w0 F0 w' (bx g t cs::L)->(Unit->A g w')->LW P n ops Q rest (dF e ((d,.pointer (some ⟨g,0,none⟩))::l)) w'):LW P n ops Q (⟨some d,.alloc t,ty,pos,aft,none⟩::rest) (dF e l) w:=by
  cases hv.eq;exact LW.alloc z.h hS hd fun g w' hS' _=>k g w' hS' fun _=>a () g w' hS'
theorem gL.at{rs:Array ResultVar}(h:gL P rs e w v):gL P rs e w v:=h
theorem dE.at{r:ResultVar}(h:dE P e w r v):dE P e w r v:=h
theorem dE.bM{a T m g:Nat}{bt:TypeId}{cs:List Value}(ha:e a=.pointer (some ⟨g,0,none⟩))(hS:St w0 F0 w L)(hi:∃i:Nat,L[i]?=some (bx g bt cs))(ht:fx P T=some (some m))(hm:cs.length=m):dE P e w (.cell a T) (.agg cs.toArray):=by
  obtain⟨i,hi⟩:=hi;exact .b hS i hi ht ha hm
theorem dE.cM{a T g:Nat}{bt:TypeId}{cs:List Value}(ha:e a=.pointer (some ⟨g,0,none⟩))(hS:St w0 F0 w L)(hi:∃i:Nat,L[i]?=some (bx g bt cs))(ht:fx P T=some none)(hv:wv cs 0=some v):dE P e w (.cell a T) v:=by
  obtain⟨i,hi⟩:=hi;exact .b1 hS i hi ht ha hv
section
variable {fuel:Nat} {E:nG} {listed:Array Bool} {i b:Nat}
theorem St.uX{b:Nat}(h:St w0 F0 w L)(hb:eJ w0 F0 b):w.heap[b]?=w0.heap[b]?:=h.same b hb.1 hb.2
theorem St.zM{b:Nat}{w1:World}{F:List Nat}(h:St w0 F0 w L)(hb:b∈F)(hi:∃i:Nat,L[i]?=some (fz w1 F)):w.heap[b]?=w1.heap[b]?:=by
  obtain⟨i,hi⟩:=hi;exact h.zC i hi hb
theorem Q7{j:Nat}{w':World}(k:Kept ops j E w w')(h:AW P n ops Q fuel E (listed.setIfInBounds j true) e w'):
    LW P n ops (fun x e' w2=>x=.normal/\Kept ops j E w w2/\AW P n ops Q fuel E (listed.setIfInBounds j true) e' w2) [] e w':=jN k h
theorem AW.oN(k:Nat){dd:Option Tmp}{op:Op}{g:Option (Nat×Bool)}(hx:Nx listed b)(hi:ops[b+k]?=some ⟨dd,op,ty,pos,aft,g⟩)(hs:KZ ops listed (b+k)=true)(hr:(Region.ready .any ops listed==[b+k])=true)
    (h:LW P n ops (fun x e' w'=>x=.normal/\Kept ops (b+k) E w w'/\AW P n ops Q fuel E (listed.setIfInBounds (b+k) true) e' w') [⟨dd,op,ty,pos,aft,g⟩] e w):AW P n ops Q (fuel+1) E listed e w:=AW.one (by simpa using hr) ⟨_,hi,h⟩
theorem jP(i:Nat){dd:Option Tmp}{op:Op}{g:Option (Nat×Bool)}(h:LW P n ops (fun x e' w'=>x=.normal/\Kept ops i E w w'/\AW P n ops Q fuel E (listed.setIfInBounds i true) e' w') [⟨dd,op,ty,pos,aft,g⟩] e w)
    (ho:ops[i]?=some ⟨dd,op,ty,pos,aft,g⟩:=by rfl) (hr:Region.ready .any ops listed=[i]:=by kernel_rfl):AW P n ops Q (fuel+1) E listed e w:=AW.one hr ⟨_,ho,h⟩
theorem oA{i:Nat}{dd:Option Tmp}{op:Op}{g:Option (Nat×Bool)}{R:iO}(h:LW P n ops R [⟨dd,op,ty,pos,aft,g⟩] e w)(ho:ops[i]?=some ⟨dd,op,ty,pos,aft,g⟩:=by rfl):∃o,ops[i]?=some o/\LW P n ops R [o] e w:=⟨_,ho,h⟩
end
section
variable {t:TypeId} {x:Operand} {b O k m:Nat} {cs vs:List Value} {w1:World} {fuel:Nat} {E:nG} {listed:Array Bool} {i:Nat}
theorem LW.OY(hx:il l x=some (.pointer (some ⟨b,O,none⟩)))(hk:∀(j:Nat) (u:Value),cs[j]?=some u->w1.cell? ⟨b,O+j,none⟩=some u)(hb:w.heap[b]?=w1.heap[b]?)(ht:fx P t=some none)(hv:cs[0]?=some v)(hd:Nat.ble (d+1) n=true)
    (h:LW P n ops Q rest (dF e ((d,v)::l)) w):LW P n ops Q (⟨some d,.load t x,ty,pos,aft,none⟩::rest) (dF e l) w:=LW.l (fv.iu w1 ht (eY hx) (hk 0 v hv)) hb hd h
theorem LW.OC(hx:il l x=some (.pointer (some ⟨b,O+k,none⟩)))(hk:∀(j:Nat) (u:Value),cs[j]?=some u->w1.cell? ⟨b,O+j,none⟩=some u)(hb:w.heap[b]?=w1.heap[b]?)(ht:fx P t=some none)(hv:cs[k]?=some v)(hd:Nat.ble (d+1) n=true)
    (h:LW P n ops Q rest (dF e ((d,v)::l)) w):LW P n ops Q (⟨some d,.load t x,ty,pos,aft,none⟩::rest) (dF e l) w:=LW.l (fv.iu w1 ht (eY hx) (hk k v hv)) hb hd h
theorem zk(hk:∀(j:Nat) (u:Value),cs[j]?=some u->w1.cell? ⟨b,O+j,none⟩=some u):∀(j:Nat) (u:Value),(rQ cs k m)[j]?=some u->w1.cell? ⟨b,O+k+j,none⟩=some u:=fun j u hu=>by
  rw[Nat.add_assoc];exact hk _ _ (zl _ _ _ _ _ hu)
theorem LW.Pk(hx:il l x=some (.pointer (some ⟨b,O,none⟩)))(hk:∀(j:Nat) (u:Value),cs[j]?=some u->w1.cell? ⟨b,O+j,none⟩=some u)(hb:w.heap[b]?=w1.heap[b]?)(ht:fx P t=some (some m))(hl:Nat.ble (0+m) cs.length=true)(hd:Nat.ble (d+1) n=true)(hn:Nf (rQ cs 0 m) vs)
    (h:LW P n ops Q rest (dF e ((d,.agg vs.toArray)::l)) w):LW P n ops Q (⟨some d,.load t x,ty,pos,aft,none⟩::rest) (dF e l) w:=by
  cases hn.eq;exact LW.l (fv.tH w1 ht (eY hx) (tT _ _ _ (Nat.le_of_ble_eq_true hl)) (zk (k:=0) hk)) hb hd h
theorem LW.PI(hx:il l x=some (.pointer (some ⟨b,O+k,none⟩)))(hk:∀(j:Nat) (u:Value),cs[j]?=some u->w1.cell? ⟨b,O+j,none⟩=some u)(hb:w.heap[b]?=w1.heap[b]?)(ht:fx P t=some (some m))(hl:Nat.ble (k+m) cs.length=true)(hd:Nat.ble (d+1) n=true)(hn:Nf (rQ cs k m) vs)
    (h:LW P n ops Q rest (dF e ((d,.agg vs.toArray)::l)) w):LW P n ops Q (⟨some d,.load t x,ty,pos,aft,none⟩::rest) (dF e l) w:=by
  cases hn.eq;exact LW.l (fv.tH w1 ht (eY hx) (tT _ _ _ (Nat.le_of_ble_eq_true hl)) (zk hk)) hb hd h
theorem gS.OY(hx:il l x=some (.pointer (some ⟨b,O,none⟩)))(hk:∀(j:Nat) (u:Value),cs[j]?=some u->w1.cell? ⟨b,O+j,none⟩=some u)(hb:w.heap[b]?=w1.heap[b]?)(ht:fx P t=some none)(hv:cs[0]?=some v)(hd:Nat.ble (d+1) n=true)(hok:gR ops listed i=true)
    (h:AW P n ops Q fuel ((i,fun w=>w.heap[b]?=w1.heap[b]?)::E) (listed.setIfInBounds i true) (dF e ((d,v)::l)) w):gS P n ops Q fuel E listed i d (.load t x) (dF e l) w:=⟨hok,hd,v,.inr ⟨_,fv.iu w1 ht (eY hx) (hk 0 v hv),hb,h⟩⟩
theorem gS.OC(hx:il l x=some (.pointer (some ⟨b,O+k,none⟩)))(hk:∀(j:Nat) (u:Value),cs[j]?=some u->w1.cell? ⟨b,O+j,none⟩=some u)(hb:w.heap[b]?=w1.heap[b]?)(ht:fx P t=some none)(hv:cs[k]?=some v)(hd:Nat.ble (d+1) n=true)(hok:gR ops listed i=true)
    (h:AW P n ops Q fuel ((i,fun w=>w.heap[b]?=w1.heap[b]?)::E) (listed.setIfInBounds i true) (dF e ((d,v)::l)) w):gS P n ops Q fuel E listed i d (.load t x) (dF e l) w:=⟨hok,hd,v,.inr ⟨_,fv.iu w1 ht (eY hx) (hk k v hv),hb,h⟩⟩
theorem gS.Pk(hx:il l x=some (.pointer (some ⟨b,O,none⟩)))(hk:∀(j:Nat) (u:Value),cs[j]?=some u->w1.cell? ⟨b,O+j,none⟩=some u)(hb:w.heap[b]?=w1.heap[b]?)(ht:fx P t=some (some m))(hl:Nat.ble (0+m) cs.length=true)(hd:Nat.ble (d+1) n=true)(hn:Nf (rQ cs 0 m) vs)(hok:gR ops listed i=true)
    (h:AW P n ops Q fuel ((i,fun w=>w.heap[b]?=w1.heap[b]?)::E) (listed.setIfInBounds i true) (dF e ((d,.agg vs.toArray)::l)) w):gS P n ops Q fuel E listed i d (.load t x) (dF e l) w:=by
  cases hn.eq;exact⟨hok,hd,_,.inr ⟨_,fv.tH w1 ht (eY hx) (tT _ _ _ (Nat.le_of_ble_eq_true hl)) (zk (k:=0) hk),hb,h⟩⟩
theorem gS.PI(hx:il l x=some (.pointer (some ⟨b,O+k,none⟩)))(hk:∀(j:Nat) (u:Value),cs[j]?=some u->w1.cell? ⟨b,O+j,none⟩=some u)(hb:w.heap[b]?=w1.heap[b]?)(ht:fx P t=some (some m))(hl:Nat.ble (k+m) cs.length=true)(hd:Nat.ble (d+1) n=true)(hn:Nf (rQ cs k m) vs)(hok:gR ops listed i=true)
    (h:AW P n ops Q fuel ((i,fun w=>w.heap[b]?=w1.heap[b]?)::E) (listed.setIfInBounds i true) (dF e ((d,.agg vs.toArray)::l)) w):gS P n ops Q fuel E listed i d (.load t x) (dF e l) w:=by
  cases hn.eq;exact⟨hok,hd,_,.inr ⟨_,fv.tH w1 ht (eY hx) (tT _ _ _ (Nat.le_of_ble_eq_true hl)) (zk hk),hb,h⟩⟩
theorem Hf{A B:Prop}(a:A)(f:(Unit->A)->B:=by
    intro a
    (first
      | ((with_reducible apply gS.OY);rfl;(with_reducible_and_instances assumption);(first|((with_reducible apply St.uX);(with_reducible assumption);(with_reducible assumption))|((with_reducible apply St.zM);(with_reducible assumption);(with_reducible assumption);(repeat (first|exact mD|apply mE))));(exact iY.h);rfl;rfl;(decide +kernel))
      | ((with_reducible apply gS.OC);rfl;(with_reducible_and_instances assumption);(first|((with_reducible apply St.uX);(with_reducible assumption);(with_reducible assumption))|((with_reducible apply St.zM);(with_reducible assumption);(with_reducible assumption);(repeat (first|exact mD|apply mE))));(exact iY.h);rfl;rfl;(decide +kernel))
      | ((with_reducible apply gS.Pk);rfl;(with_reducible_and_instances assumption);(first|((with_reducible apply St.uX);(with_reducible assumption);(with_reducible assumption))|((with_reducible apply St.zM);(with_reducible assumption);(with_reducible assumption);(repeat (first|exact mD|apply mE))));(exact iY.h);rfl;rfl;(exact iJ);(decide +kernel))
      | ((with_reducible apply gS.PI);rfl;(with_reducible_and_instances assumption);(first|((with_reducible apply St.uX);(with_reducible assumption);(with_reducible assumption))|((with_reducible apply St.zM);(with_reducible assumption);(with_reducible assumption);(repeat (first|exact mD|apply mE))));(exact iY.h);rfl;rfl;(exact iJ);(decide +kernel)))
    exact a ()):B:=f fun _=>a
theorem Re{A B:Prop}(a:A)(f:(Unit->A)->B:=by
    intro a
    with_reducible apply AW.OD
    (first
      | ((apply AW.gN 0);(first|exact Nx.set _ _|exact Nx.start _);rfl;rfl;refine Hf ?_)
      | ((apply AW.gY 0);(first|exact Nx.set _ _|exact Nx.start _);rfl;rfl;rfl;rfl;(first|assumption|rfl);refine Hf ?_)
      | ((apply AW.gN 1);(first|exact Nx.set _ _|exact Nx.start _);rfl;(decide +kernel);refine Hf ?_)
      | ((apply AW.gY 1);(first|exact Nx.set _ _|exact Nx.start _);rfl;(decide +kernel);rfl;rfl;(first|assumption|rfl);refine Hf ?_)
      | ((apply AW.gN 2);(first|exact Nx.set _ _|exact Nx.start _);rfl;(decide +kernel);refine Hf ?_)
      | ((apply AW.gY 2);(first|exact Nx.set _ _|exact Nx.start _);rfl;(decide +kernel);rfl;rfl;(first|assumption|rfl);refine Hf ?_))
    exact a ()):B:=f fun _=>a
end
def Bu:List Item->Nat->List Nat->List Nat
  | [],_,_=>[]
  | _::L,j,is=>bif is.any (Nat.beq j)then Bu L (j+1) is else j::Bu L (j+1) is
theorem CP{L R:List Item}{js:List Nat}:∀{is:List Nat} {M:List Item},iK L is=some M->iK L js=some R->iK L (is++js)=some (M++R)
  | [],_,h,k=>by cases h;exact k
  | i::is,M,h,k=>by
    unfold iK at h;split at h
    · rename_i x m h1 h2;cases h;rw[List.cons_append];unfold iK;rw[h1,CP h2 k];rfl
    · cases h
theorem LW.kE{f:FuncId}[c:Ct P f]{as:Array Operand}{ts:Array TypeId}{al:List Value}{K:List Nat->Value->World->Prop}{A:Prop}{M R:List Item}{is:List Nat}(a:Unit->A)(hS:St w0 F0 w L)
    (q:∀F,mG w0 F0 w M R F->c.T->di P f al.toArray w (K F)) (x:∀F,mG w0 F0 w M R F->KX (K F) (fun v w'=>LW P n ops Q rest (dF e ((d,v)::l)) w') A) (hd:Nat.ble (d+1) n=true) (hargs:w9 l as.toList al)
    (hsel:yn L is M) (hR:iK L (Bu L 0 is)=some R) (hn:oF (is++Bu L 0 is)=true) :
    LW P n ops Q (⟨some d,.call { callee:=.value (.func f),args:=as,argTypes:=ts },ty,pos,aft,none⟩::rest) (dF e l) w:=by
  obtain⟨F,hL⟩:=(hS.pick (is++Bu L 0 is) (CP hsel.eq hR) hn).Pb;exact LW.cl (q F hL c.h) (fun v w' hk=>x F hL a v w' hk) c.p hd hargs.eq
theorem KX.fE{M M' R:List Item}{F:List Nat}{G:Value->World->Prop}{u:Value}{A:World->Prop}(hL:mG w0 F0 w M R F)(k:∀w',St w0 F0 w' (M'++R)->(Unit->A w')->G u w'):KX (fun v w'=>v=u/\St w F w' M') G (∀w',St w0 F0 w' (M'++R)->A w'):=fun a v w' ⟨h1,h2⟩=>by
  subst h1;exact k w' (hL.back _ _ h2) fun _=>a () w' (hL.back _ _ h2)
theorem mG.rM{α:Type}[dp α]{M R:List Item}{F:List Nat}{a:Option Addr}{c:Nat}{m:List α}(h:mG w0 F0 w M R F)(hm:∃i:Nat,R[i]?=some (sl a c m)):dX (eJ w F) w a c m:=by
  obtain⟨i,hi⟩:=hm;exact h.rI i hi
theorem mG.Hi{α:Type}[dp α]{M R:List Item}{F Fz:List Nat}{w1:World}{a:Option Addr}{c:Nat}{m:List α}(h:mG w0 F0 w M R F)(hr:dX (fun b=>b∈Fz) w1 a c m)(hm:∃i:Nat,R[i]?=some (fz w1 Fz)):dX (eJ w F) w a c m:=by
  obtain⟨i,hi⟩:=hm;exact h.rZ i hi hr
theorem mG.M7{α:Type}[dp α]{M R:List Item}{F Fz:List Nat}{w1:World}{a:Option Addr}{c:Nat}{m:List α}(h:mG w0 F0 w M R F)(hr:jA w1 a c Fz m)(hm:∃i:Nat,R[i]?=some (fz w1 Fz)):dX (eJ w F) w a c m:=h.Hi hr.fe hm
theorem rt{B:Prop}(f:B:=by
    refine go ?_
    first|cases h|skip
    repeat' (first
      | exact trivial
      | ((with_reducible apply gL.at);(first|apply gL.one|apply gL.two|apply gL.three|apply gL.four|exact gL.zero))
      | ((with_reducible apply dE.at);(first|exact dE.t rfl|((apply dE.bM);(exact rfl);(with_reducible assumption);(repeat (first|exact mD|apply mE));(exact iY.h);(exact rfl))|((apply dE.cM);(exact rfl);(with_reducible assumption);(repeat (first|exact mD|apply mE));(exact iY.h);(exact rfl))))
      | ((with_reducible apply St.Ri);(with_reducible assumption);(repeat (first|exact yn.nil|((apply yn.cons);(repeat (first|exact Qi|apply Ql)))));(exact rfl))
      | apply And.intro
      | apply Exists.intro
      | exact rfl)):B:=f
theorem LW.Rg{dd:Option Tmp}{op:Op}{g:Option (Nat×Bool)}(h:LW P n ops Q (⟨dd,op,ty,pos,aft,g⟩::rest) e w):LW P n ops Q (⟨dd,op,ty,pos,aft,g⟩::rest) e w:=h
theorem LW.Rf{r:List Oper}{dd:Option Tmp}{op:Op}{g:Option (Nat×Bool)}(hr:r=⟨dd,op,ty,pos,aft,g⟩::rest)(h:LW P n ops Q (⟨dd,op,ty,pos,aft,g⟩::rest) e w):LW P n ops Q r e w:=by subst hr;exact h
theorem CW.QT{id:Nat}{lo:List Oper}(hg:lo.all (fun o=>o.guard.isNone)=true)(h:CW P n (.region id lo.toArray false) Q e w):CW P n (.region id lo.toArray false) Q e w:=h
theorem T{A B:Prop}(a:A)(f:(Unit->A)->B:=by
    intro a
    repeat (first
      | ((with_reducible apply CW.nr);(repeat first|(with_reducible exact rfl)|(with_reducible apply yC)))
      | with_reducible apply CW.seq
      | with_reducible apply MX
      | with_reducible apply MY
      | with_reducible apply M3
      | with_reducible apply Na
      | with_reducible apply MN
      | with_reducible apply MR
      | ((with_reducible apply MS);(exact rfl))
      | with_reducible apply CW.region
      | with_reducible apply CW.skip
      | with_reducible apply CW.block
      | with_reducible apply CW.exit
      | (with_reducible apply CW.ret))
    repeat (first
      | ((with_reducible apply LW.nr);(repeat first|(with_reducible exact rfl)|(with_reducible apply yC)))
      | ((with_reducible apply LW.yes);rfl;rfl;(first|assumption|rfl))
      | ((with_reducible apply LW.no);rfl;rfl;(first|assumption|rfl);rfl)
      | ((with_reducible apply LW.mv);rfl;rfl)
      | ((with_reducible apply LW.fa);(exact gq.h);rfl;rfl)
      | ((with_reducible apply LW.ld);rfl;assumption;(repeat (first|exact mD|apply mE));(exact iY.h);rfl;rfl)
      | ((with_reducible apply LW.bin);rfl;rfl;rfl;rfl)
      | ((with_reducible apply LW.Lv);rfl;(first|assumption|rfl);rfl;rfl)
      | ((with_reducible apply LW.Ld);rfl;(first|assumption|rfl);rfl;rfl)
      | ((with_reducible apply LW.as);rfl;rfl)
      | ((with_reducible apply LW.J0);rfl;assumption;(repeat (first|exact mD|apply mE));(exact iY.h);rfl;rfl;(exact iJ))
      | ((with_reducible apply LW.len);(exact rL.h);rfl;rfl)
      | ((with_reducible apply LW.JZ);(exact rL.h);(exact uf.h);rfl;rfl;assumption;assumption;rfl)
      | ((with_reducible apply LW.Pu);rfl;rfl;rfl)
      | ((with_reducible apply LW.ext);rfl;rfl;rfl)
      | ((with_reducible apply LW.not);rfl;rfl)
      | ((with_reducible apply LW.neg);rfl;rfl)
      | ((with_reducible apply LW.OY);rfl;(with_reducible_and_instances assumption);(first|((with_reducible apply St.uX);(with_reducible assumption);(with_reducible assumption))|((with_reducible apply St.zM);(with_reducible assumption);(with_reducible assumption);(repeat (first|exact mD|apply mE))));(exact iY.h);rfl;rfl)
      | ((with_reducible apply LW.OC);rfl;(with_reducible_and_instances assumption);(first|((with_reducible apply St.uX);(with_reducible assumption);(with_reducible assumption))|((with_reducible apply St.zM);(with_reducible assumption);(with_reducible assumption);(repeat (first|exact mD|apply mE))));(exact iY.h);rfl;rfl)
      | ((with_reducible apply LW.Pk);rfl;(with_reducible_and_instances assumption);(first|((with_reducible apply St.uX);(with_reducible assumption);(with_reducible assumption))|((with_reducible apply St.zM);(with_reducible assumption);(with_reducible assumption);(repeat (first|exact mD|apply mE))));(exact iY.h);rfl;rfl;(exact iJ))
      | ((with_reducible apply LW.PI);rfl;(with_reducible_and_instances assumption);(first|((with_reducible apply St.uX);(with_reducible assumption);(with_reducible assumption))|((with_reducible apply St.zM);(with_reducible assumption);(with_reducible assumption);(repeat (first|exact mD|apply mE))));(exact iY.h);rfl;rfl;(exact iJ))
      | ((with_reducible apply LW.sT a);rfl;assumption;(repeat (first|apply Ud.hd|apply Ud.tl));(exact iY.h);rfl;(exact iJ);rfl;rfl;rfl;(exact iJ);(clear a);intro w s a)
      | ((with_reducible apply LW.bT a);rfl;(exact iJ);assumption;rfl;(clear a);intro g w s a)
      | ((with_reducible apply LW.aT a);(exact iJ);assumption;rfl;(clear a);intro g w s a)
      | ((with_reducible apply LW.OS);(apply gK (by first|with_reducible exact h|exact h) a);(clear a);(intro y hy h a);(with_reducible apply LW.kL a);(intro t;apply t;(with_reducible exact hy));(case hargs=>(repeat (first|exact w9.nil|(apply w9.cons;rfl))));(case hd=>exact rfl);
          (repeat (first|exact rfl|exact dx (oi (by with_reducible assumption))|((with_reducible apply St.rB);(with_reducible assumption);(with_reducible assumption))|((with_reducible apply St.rM);(with_reducible assumption);(repeat (first|exact mD|apply mE));with_reducible fail_if_success (apply MZ))|((with_reducible apply St.Hi);(with_reducible assumption);(with_reducible assumption);(repeat (first|exact mD|apply mE)))|((with_reducible apply St.M7);(with_reducible assumption);(with_reducible assumption);(repeat (first|exact mD|apply mE)))));
          (clear a);(repeat ((with_reducible apply KX.ex);intro c));(first|((with_reducible apply KX.f0);(with_reducible assumption))|((with_reducible apply KX.f1);(with_reducible assumption)));intro w s a)
      | ((with_reducible apply LW.OS);(apply gK (by first|with_reducible exact h|exact h) a);(clear a);(intro y hy h a);(with_reducible apply LW.kE a);(with_reducible assumption);(intro F u t;apply t;(with_reducible exact hy));(case hargs=>(repeat (first|exact w9.nil|(apply w9.cons;rfl))));(case hd=>exact rfl);(all_goals (try (with_reducible apply mG.st u)));
          (case hsel=>(repeat (first|exact yn.nil|((apply yn.cons);(repeat (first|exact Qi|apply Ql))))));(case hR=>exact rfl);(case hn=>exact rfl);
          (repeat (first|exact rfl|exact dx (oi (by with_reducible assumption))|((with_reducible apply mG.rB);(with_reducible assumption);(with_reducible assumption))|((with_reducible apply mG.rM);(with_reducible assumption);(repeat (first|exact mD|apply mE));with_reducible fail_if_success (apply MZ))|((with_reducible apply mG.Hi);(with_reducible assumption);(with_reducible assumption);(repeat (first|exact mD|apply mE));with_reducible fail_if_success (apply MZ))|((with_reducible apply mG.M7);(with_reducible assumption);(with_reducible assumption);(repeat (first|exact mD|apply mE)))));
          (intro F u);(clear a);(repeat ((with_reducible apply KX.ex);intro c));((with_reducible apply KX.fE);(with_reducible assumption));intro w s a)
      | ((with_reducible apply LW.OS);(with_reducible apply LW.kL a);(intro t;apply t;(with_reducible assumption));(case hargs=>(repeat (first|exact w9.nil|(apply w9.cons;rfl))));(case hd=>exact rfl);
          (repeat (first|exact rfl|exact dx (oi (by with_reducible assumption))|((with_reducible apply St.rB);(with_reducible assumption);(with_reducible assumption))|((with_reducible apply St.rM);(with_reducible assumption);(repeat (first|exact mD|apply mE));with_reducible fail_if_success (apply MZ))|((with_reducible apply St.Hi);(with_reducible assumption);(with_reducible assumption);(repeat (first|exact mD|apply mE)))|((with_reducible apply St.M7);(with_reducible assumption);(with_reducible assumption);(repeat (first|exact mD|apply mE)))));
          (clear a);(repeat ((with_reducible apply KX.ex);intro c));(first|((with_reducible apply KX.f0);(with_reducible assumption))|((with_reducible apply KX.f1);(with_reducible assumption)));intro w s a)
      | ((with_reducible apply Q7);(repeat (first|exact jZ|((with_reducible apply Kept.c);(case h=>(first|((with_reducible apply St.cA);(with_reducible assumption);(repeat (first|exact mD|apply mE));done)|((with_reducible apply St.uX);(with_reducible assumption);(with_reducible assumption))|((with_reducible apply St.zM);(with_reducible assumption);(with_reducible assumption);(repeat (first|exact mD|apply mE));done))))|((with_reducible apply Kept.w);(decide +kernel)))))
      | with_reducible apply LW.nil
      | ((with_reducible apply CW.nr);(repeat first|(with_reducible exact rfl)|(with_reducible apply yC)))
      | with_reducible apply CW.seq
      | with_reducible apply MX
      | with_reducible apply MY
      | with_reducible apply M3
      | with_reducible apply Na
      | with_reducible apply MN
      | with_reducible apply MR
      | ((with_reducible apply MS);(exact rfl))
      | ((with_reducible apply CW.QT);rfl;(with_reducible apply CW.region))
      | with_reducible apply CW.skip
      | with_reducible apply CW.exit
      | (with_reducible apply CW.ret)
      | ((with_reducible apply AW.nr);(repeat first|(with_reducible exact rfl)|(with_reducible apply yC)))
      | refine gA ?_
      | refine Re ?_
      | ((with_reducible apply AW.OD);(first|((apply AW.oN 0);(first|exact Nx.set _ _|exact Nx.start _);rfl;(decide +kernel);(decide +kernel))|((apply AW.oN 1);(first|exact Nx.set _ _|exact Nx.start _);rfl;(decide +kernel);(decide +kernel))|((apply AW.oN 2);(first|exact Nx.set _ _|exact Nx.start _);rfl;(decide +kernel);(decide +kernel))))
      | ((fail_if_success (with_reducible apply LW.Rg));(with_reducible apply LW.Rf);rfl))
    exact a ()):B:=f fun _=>a
end
theorem wk{B:Prop}(f:B:=by
    repeat' (first
      | (refine gc h ?_ ?_<;>intro _ h)
      | (refine gB h ?_ ?_<;>intro _ h)
      | (refine T ?_;intro _;intros;have h:=‹_=some _›)
      | exact rt
      | (refine bH h ?_ ?_<;>intro _ h))):B:=f
end Go.Kx
