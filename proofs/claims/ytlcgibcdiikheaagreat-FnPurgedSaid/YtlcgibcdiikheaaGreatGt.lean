import Derived.Test.YtlcgibcdiikheaaGreatGp
namespace Go.Kx
open Go Go.RowKit
set_option linter.unusedVariables false
set_option linter.unusedSimpArgs false
class Ct (P:Program) (f:FuncId) where
  {T:Prop}
  p:ra P f=true
  h:T
def KX (K G:Value→World→Prop) (A:Prop):Prop:=(Unit→A)→∀ v w,K v w→G v w
theorem KX.ex {γ:Type} {K:γ→Value→World→Prop} {G:Value→World→Prop} {A:γ→Prop} (h:∀ c,KX (K c) G (A c)):KX (fun v w=>∃ c,K c v w) G (∀ c,A c):=fun a v w ⟨c,hc⟩=>h c (fun _=>a () c) v w hc
inductive sB (l:List (Nat×Value)):List Operand→List Value→Prop
  | nil:sB l [] []
  | cons {x:Operand} {v:Value} {xs:List Operand} {vs:List Value} (h:jF l x=some v) (t:sB l xs vs):sB l (x::xs) (v::vs)
theorem sB.eq {e:Env} {l:List (Nat×Value)}:∀ {xs:List Operand} {vs:List Value},sB l xs vs→xs.map (ev (ij e l))=vs
  | _,_,.nil=>rfl
  | _,_,.cons h t=>by rw [List.map_cons,iP h,t.eq]
inductive Ud (g:Nat) (bt:TypeId) (cs cs':List Value):List Item→List Item→Prop
  | hd {L:List Item}:Ud g bt cs cs' (bx g bt cs::L) (bx g bt cs'::L)
  | tl {x:Item} {L L':List Item} (h:Ud g bt cs cs' L L'):Ud g bt cs cs' (x::L) (x::L')
theorem Ud.ix {g:Nat} {bt:TypeId} {cs cs':List Value}:∀ {L L':List Item},Ud g bt cs cs' L L'→∃ i:Nat,L[i]?=some (bx g bt cs)∧L'=L.set i (bx g bt cs')
  | _,_,.hd=>⟨0,rfl,rfl⟩
  | _,_,.tl h=>by
    obtain ⟨i,h1,h2⟩:=h.ix;exact ⟨i+1,h1,by rw [h2];rfl⟩
inductive te (L:List Item):List Nat→List Item→Prop
  | nil:te L [] []
  | cons {i:Nat} {x:Item} {is:List Nat} {M:List Item} (h:L[i]?=some x) (t:te L is M):te L (i::is) (x::M)
theorem te.eq {L:List Item}:∀ {is:List Nat} {M:List Item},te L is M→kN L is=some M
  | _,_,.nil=>rfl
  | _,_,.cons h t=>by unfold kN;rw [h,t.eq]
theorem Dt {L:List Item} {x:Item} (h:∃ i:Nat,L[i]?=some x):∃ i:Nat,L[i]?=some x:=h
theorem GD {L:List Item} {x:Item}:(x::L)[0]?=some x:=rfl
theorem GC {L:List Item} {x y:Item} {i:Nat} (h:L[i]?=some x):(y::L)[i+1]?=some x:=h
section
variable {P:Program} {n:Nat} {Q:jV} {e:Env} {l:List (Nat×Value)} {w w0:World} {F0:List Nat} {L L':List Item} {ops:Array Oper} {rest:List Oper} {ty:TypeId} {pos:String} {aft:Array Edge} {d:Nat} {v:Value}
theorem St.Ht {M:List Item} {is:List Nat} (h:St w0 F0 w L) (hs:te L is M) (hn:m3 is=true):St w0 F0 w M:=h.pick is hs.eq hn
theorem St.rM {α:Type} [gT α] {a:Option Addr} {c:Nat} {m:List α} (h:St w0 F0 w L) (hm:∃ i:Nat,L[i]?=some (sl a c m)):iy (ja w []) w a c m:=by
  obtain ⟨i,hi⟩:=hm;exact h.rI i hi
theorem St.z9 {α:Type} [gT α] {a:Option Addr} {c:Nat} {m:List α} {w1:World} {F:List Nat} (h:St w0 F0 w L) (hr:iy (fun b=>b ∈ F) w1 a c m) (hm:∃ i:Nat,L[i]?=some (fz w1 F)):iy (ja w []) w a c m:=by
  obtain ⟨i,hi⟩:=hm;exact h.rZ i hi hr
theorem St.DY {α:Type} [gT α] {a:Option Addr} {c:Nat} {m:List α} {w1:World} {F:List Nat} (h:St w0 F0 w L) (hr:kW w1 a c F m) (hm:∃ i:Nat,L[i]?=some (fz w1 F)):iy (ja w []) w a c m:=h.z9 hr.jB hm
theorem KX.f0 {G:Value→World→Prop} {u:Value} {A:World→Prop} (hS:St w0 F0 w L) (k:∀ w',St w0 F0 w' L→(Unit→A w')→G u w'):KX (fun v w'=>v=u∧St w [] w' []) G (∀ w',St w0 F0 w' L→A w'):=fun a v w' ⟨h1,h2⟩=>by
  subst h1
  have h3:St w0 F0 w' L:=by simpa using hS.add h2
  exact k w' h3 fun _=>a () w' h3
theorem KX.f1 {G:Value→World→Prop} {u:Value} {M:List Item} {A:World→Prop} (hS:St w0 F0 w L) (k:∀ w',St w0 F0 w' (M++L)→(Unit→A w')→G u w'):KX (fun v w'=>v=u∧St w [] w' M) G (∀ w',St w0 F0 w' (M++L)→A w'):=fun a v w' ⟨h1,h2⟩=>by
  subst h1;exact k w' (hS.add h2) fun _=>a () w' (hS.add h2)
theorem gK {α β:Type} {o:Option α} {g:α→Option β} {r:β} {A:α→Prop} {G:Prop} (h:o.bind g=some r) (a:Unit→∀ x,o=some x→g x=some r→A x) (k:∀ x,o=some x→g x=some r→(Unit→A x)→G):G:=by
  obtain ⟨x,h1,h2⟩:=Option.bind_eq_some_iff.1 h;exact k x h1 h2 fun _=>a () x h1 h2
theorem LW.Fv {f:FuncId} {as:Array Operand} {ts:Array TypeId} (h:LW P n ops Q (⟨some d,.call { callee:=.value (.func f),args:=as,argTypes:=ts },ty,pos,aft,none⟩::rest) e w):LW P n ops Q (⟨some d,.call { callee:=.value (.func f),args:=as,argTypes:=ts },ty,pos,aft,none⟩::rest) e w:=h
theorem LW.kL {f:FuncId} [c:Ct P f] {as:Array Operand} {ts:Array TypeId} {al:List Value} {K:Value→World→Prop} {A:Prop} (a:Unit→A) (q:c.T→gZ P f al.toArray w K) (x:KX K (fun v w'=>LW P n ops Q rest (ij e ((d,v)::l)) w') A) (hd:Nat.ble (d+1) n=true) (hargs:sB l as.toList al) :
    LW P n ops Q (⟨some d,.call { callee:=.value (.func f),args:=as,argTypes:=ts },ty,pos,aft,none⟩::rest) (ij e l) w:=LW.cl (q c.h) (fun v w' hk=>x a v w' hk) c.p hd hargs.eq
theorem LW.sT {t bt:TypeId} {x y:Operand} {av:Option Nat} {g o:Nat} {cs vs cs':List Value} {A:World→Prop} (a:Unit→∀ w':World,St w0 F0 w' L'→A w')
    (hx:jF l x=some (.pointer (some ⟨g,o,none⟩))) (hS:St w0 F0 w L) (hU:Ud g bt cs cs' L L') (ht:iY P t=some av) (hy:jF l y=some v) (hv:Nf v.cells.toList vs) (hm:vs.length=av.getD 1) (hl:Nat.ble (o+vs.length) cs.length=true) (h1:vs.all (·.oneCell')=true) (hc:Nf (sv cs o vs) cs')
    (k:∀ w':World,St w0 F0 w' L'→(Unit→A w')→LW P n ops Q rest (ij e l) w'):LW P n ops Q (⟨none,.store t x y,ty,pos,aft,none⟩::rest) (ij e l) w:=by
  obtain ⟨i,h2,rfl⟩:=hU.ix;cases hv.eq;cases hc.eq;exact LW.Fp hS i h2 ht (iP hx) (by rw [iP hy]) hm hl h1 fun w' hS' _=>k w' hS' fun _=>a () w' hS'
theorem LW.bT {t:TypeId} {x:Operand} {cs:List Value} {A:Nat→World→Prop} (a:Unit→∀ (g:Nat) (w':World),St w0 F0 w' (bx g t cs::L)→A g w') (hx:jF l x=some v) (hv:Nf v.cells.toList cs) (hS:St w0 F0 w L) (hd:Nat.ble (d+1) n=true)
    (k:∀ (g:Nat) (w':World),St w0 F0 w' (bx g t cs::L)→(Unit→A g w')→LW P n ops Q rest (ij e ((d,.pointer (some ⟨g,0,none⟩))::l)) w'):LW P n ops Q (⟨some d,.box t x,ty,pos,aft,none⟩::rest) (ij e l) w:=by
  cases hv.eq;exact LW.box (by rw [iP hx]) hS hd fun g w' hS' _=>k g w' hS' fun _=>a () g w' hS'
theorem LW.aT {t:TypeId} {cs:List Value} {A:Nat→World→Prop} [z:rq P t] (a:Unit→∀ (g:Nat) (w':World),St w0 F0 w' (bx g t cs::L)→A g w') (hv:Nf z.z.cells.toList cs) (hS:St w0 F0 w L) (hd:Nat.ble (d+1) n=true)
    (k:∀ (g:Nat) (w':World),St w0 F0 w' (bx g t cs::L)→(Unit→A g w')→LW P n ops Q rest (ij e ((d,.pointer (some ⟨g,0,none⟩))::l)) w'):LW P n ops Q (⟨some d,.alloc t,ty,pos,aft,none⟩::rest) (ij e l) w:=by
  cases hv.eq;exact LW.alloc z.h hS hd fun g w' hS' _=>k g w' hS' fun _=>a () g w' hS'
theorem jM.at {rs:Array ResultVar} (h:jM P rs e w v):jM P rs e w v:=h
theorem hP.at {r:ResultVar} (h:hP P e w r v):hP P e w r v:=h
theorem hP.bM {a T m g:Nat} {bt:TypeId} {cs:List Value} (ha:e a=.pointer (some ⟨g,0,none⟩)) (hS:St w0 F0 w L) (hi:∃ i:Nat,L[i]?=some (bx g bt cs)) (ht:iY P T=some (some m)) (hm:cs.length=m):hP P e w (.cell a T) (.agg cs.toArray):=by
  obtain ⟨i,hi⟩:=hi;exact .b hS i hi ht ha hm
theorem hP.cM {a T g:Nat} {bt:TypeId} {cs:List Value} (ha:e a=.pointer (some ⟨g,0,none⟩)) (hS:St w0 F0 w L) (hi:∃ i:Nat,L[i]?=some (bx g bt cs)) (ht:iY P T=some none) (hv:sa cs 0=some v):hP P e w (.cell a T) v:=by
  obtain ⟨i,hi⟩:=hi;exact .b1 hS i hi ht ha hv
section
variable {fuel:Nat} {E:mE} {listed:Array Bool} {i b:Nat}
theorem St.qS {b:Nat} (h:St w0 F0 w L) (hb:ja w0 F0 b):w.heap[b]?=w0.heap[b]?:=h.same b hb.1 hb.2
theorem St.zM {b:Nat} {w1:World} {F:List Nat} (h:St w0 F0 w L) (hb:b ∈ F) (hi:∃ i:Nat,L[i]?=some (fz w1 F)):w.heap[b]?=w1.heap[b]?:=by
  obtain ⟨i,hi⟩:=hi;exact h.zC i hi hb
theorem Hm {j:Nat} {w':World} (k:Kept ops j E w w') (h:AW P n ops Q fuel E (listed.setIfInBounds j true) e w') :
    LW P n ops (fun x e' w2=>x=.normal∧Kept ops j E w w2∧AW P n ops Q fuel E (listed.setIfInBounds j true) e' w2) [] e w':=jN k h
theorem AW.oN (k:Nat) {dd:Option Tmp} {op:Op} {g:Option (Nat×Bool)} (hx:Nx listed b) (hi:ops[b+k]?=some ⟨dd,op,ty,pos,aft,g⟩) (hs:Cm ops listed (b+k)=true) (hr:(Region.ready .any ops listed==[b+k])=true)
    (h:LW P n ops (fun x e' w'=>x=.normal∧Kept ops (b+k) E w w'∧AW P n ops Q fuel E (listed.setIfInBounds (b+k) true) e' w') [⟨dd,op,ty,pos,aft,g⟩] e w):AW P n ops Q (fuel+1) E listed e w:=AW.one (by simpa using hr) ⟨_,hi,h⟩
theorem jP (i:Nat) {dd:Option Tmp} {op:Op} {g:Option (Nat×Bool)} (h:LW P n ops (fun x e' w'=>x=.normal∧Kept ops i E w w'∧AW P n ops Q fuel E (listed.setIfInBounds i true) e' w') [⟨dd,op,ty,pos,aft,g⟩] e w)
    (ho:ops[i]?=some ⟨dd,op,ty,pos,aft,g⟩:=by rfl) (hr:Region.ready .any ops listed=[i]:=by kernel_rfl):AW P n ops Q (fuel+1) E listed e w:=AW.one hr ⟨_,ho,h⟩
theorem oA {i:Nat} {dd:Option Tmp} {op:Op} {g:Option (Nat×Bool)} {R:jV} (h:LW P n ops R [⟨dd,op,ty,pos,aft,g⟩] e w) (ho:ops[i]?=some ⟨dd,op,ty,pos,aft,g⟩:=by rfl):∃ o,ops[i]?=some o∧LW P n ops R [o] e w:=⟨_,ho,h⟩
end
section
variable {t:TypeId} {x:Operand} {b O k m:Nat} {cs vs:List Value} {w1:World} {fuel:Nat} {E:mE} {listed:Array Bool} {i:Nat}
theorem LW.FW (hx:jF l x=some (.pointer (some ⟨b,O,none⟩))) (hk:∀ (j:Nat) (u:Value),cs[j]?=some u→w1.cell? ⟨b,O+j,none⟩=some u) (hb:w.heap[b]?=w1.heap[b]?) (ht:iY P t=some none) (hv:cs[0]?=some v) (hd:Nat.ble (d+1) n=true)
    (h:LW P n ops Q rest (ij e ((d,v)::l)) w):LW P n ops Q (⟨some d,.load t x,ty,pos,aft,none⟩::rest) (ij e l) w:=LW.l (jb.j7 w1 ht (iP hx) (hk 0 v hv)) hb hd h
theorem LW.EX (hx:jF l x=some (.pointer (some ⟨b,O+k,none⟩))) (hk:∀ (j:Nat) (u:Value),cs[j]?=some u→w1.cell? ⟨b,O+j,none⟩=some u) (hb:w.heap[b]?=w1.heap[b]?) (ht:iY P t=some none) (hv:cs[k]?=some v) (hd:Nat.ble (d+1) n=true)
    (h:LW P n ops Q rest (ij e ((d,v)::l)) w):LW P n ops Q (⟨some d,.load t x,ty,pos,aft,none⟩::rest) (ij e l) w:=LW.l (jb.j7 w1 ht (iP hx) (hk k v hv)) hb hd h
theorem ub (hk:∀ (j:Nat) (u:Value),cs[j]?=some u→w1.cell? ⟨b,O+j,none⟩=some u):∀ (j:Nat) (u:Value),(oR cs k m)[j]?=some u→w1.cell? ⟨b,O+k+j,none⟩=some u:=fun j u hu=>by
  rw [Nat.add_assoc];exact hk _ _ (ui _ _ _ _ _ hu)
theorem LW.Ft (hx:jF l x=some (.pointer (some ⟨b,O,none⟩))) (hk:∀ (j:Nat) (u:Value),cs[j]?=some u→w1.cell? ⟨b,O+j,none⟩=some u) (hb:w.heap[b]?=w1.heap[b]?) (ht:iY P t=some (some m)) (hl:Nat.ble (0+m) cs.length=true) (hd:Nat.ble (d+1) n=true) (hn:Nf (oR cs 0 m) vs)
    (h:LW P n ops Q rest (ij e ((d,.agg vs.toArray)::l)) w):LW P n ops Q (⟨some d,.load t x,ty,pos,aft,none⟩::rest) (ij e l) w:=by
  cases hn.eq;exact LW.l (jb.pZ w1 ht (iP hx) (qf _ _ _ (Nat.le_of_ble_eq_true hl)) (ub (k:=0) hk)) hb hd h
theorem LW.EK (hx:jF l x=some (.pointer (some ⟨b,O+k,none⟩))) (hk:∀ (j:Nat) (u:Value),cs[j]?=some u→w1.cell? ⟨b,O+j,none⟩=some u) (hb:w.heap[b]?=w1.heap[b]?) (ht:iY P t=some (some m)) (hl:Nat.ble (k+m) cs.length=true) (hd:Nat.ble (d+1) n=true) (hn:Nf (oR cs k m) vs)
    (h:LW P n ops Q rest (ij e ((d,.agg vs.toArray)::l)) w):LW P n ops Q (⟨some d,.load t x,ty,pos,aft,none⟩::rest) (ij e l) w:=by
  cases hn.eq;exact LW.l (jb.pZ w1 ht (iP hx) (qf _ _ _ (Nat.le_of_ble_eq_true hl)) (ub hk)) hb hd h
theorem ju.FW (hx:jF l x=some (.pointer (some ⟨b,O,none⟩))) (hk:∀ (j:Nat) (u:Value),cs[j]?=some u→w1.cell? ⟨b,O+j,none⟩=some u) (hb:w.heap[b]?=w1.heap[b]?) (ht:iY P t=some none) (hv:cs[0]?=some v) (hd:Nat.ble (d+1) n=true) (hok:jv ops listed i=true)
    (h:AW P n ops Q fuel ((i,fun w=>w.heap[b]?=w1.heap[b]?)::E) (listed.setIfInBounds i true) (ij e ((d,v)::l)) w):ju P n ops Q fuel E listed i d (.load t x) (ij e l) w:=⟨hok,hd,v,.inr ⟨_,jb.j7 w1 ht (iP hx) (hk 0 v hv),hb,h⟩⟩
theorem ju.EX (hx:jF l x=some (.pointer (some ⟨b,O+k,none⟩))) (hk:∀ (j:Nat) (u:Value),cs[j]?=some u→w1.cell? ⟨b,O+j,none⟩=some u) (hb:w.heap[b]?=w1.heap[b]?) (ht:iY P t=some none) (hv:cs[k]?=some v) (hd:Nat.ble (d+1) n=true) (hok:jv ops listed i=true)
    (h:AW P n ops Q fuel ((i,fun w=>w.heap[b]?=w1.heap[b]?)::E) (listed.setIfInBounds i true) (ij e ((d,v)::l)) w):ju P n ops Q fuel E listed i d (.load t x) (ij e l) w:=⟨hok,hd,v,.inr ⟨_,jb.j7 w1 ht (iP hx) (hk k v hv),hb,h⟩⟩
theorem ju.Ft (hx:jF l x=some (.pointer (some ⟨b,O,none⟩))) (hk:∀ (j:Nat) (u:Value),cs[j]?=some u→w1.cell? ⟨b,O+j,none⟩=some u) (hb:w.heap[b]?=w1.heap[b]?) (ht:iY P t=some (some m)) (hl:Nat.ble (0+m) cs.length=true) (hd:Nat.ble (d+1) n=true) (hn:Nf (oR cs 0 m) vs) (hok:jv ops listed i=true)
    (h:AW P n ops Q fuel ((i,fun w=>w.heap[b]?=w1.heap[b]?)::E) (listed.setIfInBounds i true) (ij e ((d,.agg vs.toArray)::l)) w):ju P n ops Q fuel E listed i d (.load t x) (ij e l) w:=by
  cases hn.eq;exact ⟨hok,hd,_,.inr ⟨_,jb.pZ w1 ht (iP hx) (qf _ _ _ (Nat.le_of_ble_eq_true hl)) (ub (k:=0) hk),hb,h⟩⟩
theorem ju.EK (hx:jF l x=some (.pointer (some ⟨b,O+k,none⟩))) (hk:∀ (j:Nat) (u:Value),cs[j]?=some u→w1.cell? ⟨b,O+j,none⟩=some u) (hb:w.heap[b]?=w1.heap[b]?) (ht:iY P t=some (some m)) (hl:Nat.ble (k+m) cs.length=true) (hd:Nat.ble (d+1) n=true) (hn:Nf (oR cs k m) vs) (hok:jv ops listed i=true)
    (h:AW P n ops Q fuel ((i,fun w=>w.heap[b]?=w1.heap[b]?)::E) (listed.setIfInBounds i true) (ij e ((d,.agg vs.toArray)::l)) w):ju P n ops Q fuel E listed i d (.load t x) (ij e l) w:=by
  cases hn.eq;exact ⟨hok,hd,_,.inr ⟨_,jb.pZ w1 ht (iP hx) (qf _ _ _ (Nat.le_of_ble_eq_true hl)) (ub hk),hb,h⟩⟩
theorem zR {A B:Prop} (a:A) (f:(Unit→A)→B:=by
    intro a
    (first
      | ((with_reducible apply ju.FW);rfl;(with_reducible_and_instances assumption);(first | ((with_reducible apply St.qS);(with_reducible assumption);(with_reducible assumption)) | ((with_reducible apply St.zM);(with_reducible assumption);(with_reducible assumption);(repeat (first | exact lT | apply lV))));(exact j8.h);rfl;rfl;(decide +kernel))
      | ((with_reducible apply ju.EX);rfl;(with_reducible_and_instances assumption);(first | ((with_reducible apply St.qS);(with_reducible assumption);(with_reducible assumption)) | ((with_reducible apply St.zM);(with_reducible assumption);(with_reducible assumption);(repeat (first | exact lT | apply lV))));(exact j8.h);rfl;rfl;(decide +kernel))
      | ((with_reducible apply ju.Ft);rfl;(with_reducible_and_instances assumption);(first | ((with_reducible apply St.qS);(with_reducible assumption);(with_reducible assumption)) | ((with_reducible apply St.zM);(with_reducible assumption);(with_reducible assumption);(repeat (first | exact lT | apply lV))));(exact j8.h);rfl;rfl;(repeat (first | ((with_reducible apply Nf.cons);rfl) | ((with_reducible apply Nf.nil);rfl)));(decide +kernel))
      | ((with_reducible apply ju.EK);rfl;(with_reducible_and_instances assumption);(first | ((with_reducible apply St.qS);(with_reducible assumption);(with_reducible assumption)) | ((with_reducible apply St.zM);(with_reducible assumption);(with_reducible assumption);(repeat (first | exact lT | apply lV))));(exact j8.h);rfl;rfl;(repeat (first | ((with_reducible apply Nf.cons);rfl) | ((with_reducible apply Nf.nil);rfl)));(decide +kernel)))
    exact a ()):B:=f fun _=>a
theorem Hg {A B:Prop} (a:A) (f:(Unit→A)→B:=by
    intro a
    with_reducible apply AW.Fo
    (first
      | ((apply AW.gN 0);(first | exact Nx.set _ _ | exact Nx.start _);rfl;rfl;refine zR ?_)
      | ((apply AW.gY 0);(first | exact Nx.set _ _ | exact Nx.start _);rfl;rfl;rfl;rfl;(first | assumption | rfl);refine zR ?_)
      | ((apply AW.gN 1);(first | exact Nx.set _ _ | exact Nx.start _);rfl;(decide +kernel);refine zR ?_)
      | ((apply AW.gY 1);(first | exact Nx.set _ _ | exact Nx.start _);rfl;(decide +kernel);rfl;rfl;(first | assumption | rfl);refine zR ?_)
      | ((apply AW.gN 2);(first | exact Nx.set _ _ | exact Nx.start _);rfl;(decide +kernel);refine zR ?_)
      | ((apply AW.gY 2);(first | exact Nx.set _ _ | exact Nx.start _);rfl;(decide +kernel);rfl;rfl;(first | assumption | rfl);refine zR ?_))
    exact a ()):B:=f fun _=>a
end
def v8:List Item→Nat→List Nat→List Nat
  | [],_,_=>[]
  | _::L,j,is=>bif is.any (Nat.beq j) then v8 L (j+1) is else j::v8 L (j+1) is
theorem xj {L R:List Item} {js:List Nat}:∀ {is:List Nat} {M:List Item},kN L is=some M→kN L js=some R→kN L (is++js)=some (M++R)
  | [],_,h,k=>by cases h;exact k
  | i::is,M,h,k=>by
    unfold kN at h;split at h
    · rename_i x m h1 h2;cases h;rw [List.cons_append];unfold kN;rw [h1,xj h2 k];rfl
    · cases h
theorem LW.kE {f:FuncId} [c:Ct P f] {as:Array Operand} {ts:Array TypeId} {al:List Value} {K:List Nat→Value→World→Prop} {A:Prop} {M R:List Item} {is:List Nat} (a:Unit→A) (hS:St w0 F0 w L)
    (q:∀ F,lW w0 F0 w M R F→c.T→gZ P f al.toArray w (K F)) (x:∀ F,lW w0 F0 w M R F→KX (K F) (fun v w'=>LW P n ops Q rest (ij e ((d,v)::l)) w') A) (hd:Nat.ble (d+1) n=true) (hargs:sB l as.toList al)
    (hsel:te L is M) (hR:kN L (v8 L 0 is)=some R) (hn:m3 (is++v8 L 0 is)=true) :
    LW P n ops Q (⟨some d,.call { callee:=.value (.func f),args:=as,argTypes:=ts },ty,pos,aft,none⟩::rest) (ij e l) w:=by
  obtain ⟨F,hL⟩:=(hS.pick (is++v8 L 0 is) (xj hsel.eq hR) hn).Fs;exact LW.cl (q F hL c.h) (fun v w' hk=>x F hL a v w' hk) c.p hd hargs.eq
theorem KX.fE {M M' R:List Item} {F:List Nat} {G:Value→World→Prop} {u:Value} {A:World→Prop} (hL:lW w0 F0 w M R F) (k:∀ w',St w0 F0 w' (M'++R)→(Unit→A w')→G u w'):KX (fun v w'=>v=u∧St w F w' M') G (∀ w',St w0 F0 w' (M'++R)→A w'):=fun a v w' ⟨h1,h2⟩=>by
  subst h1;exact k w' (hL.back _ _ h2) fun _=>a () w' (hL.back _ _ h2)
theorem lW.rM {α:Type} [gT α] {M R:List Item} {F:List Nat} {a:Option Addr} {c:Nat} {m:List α} (h:lW w0 F0 w M R F) (hm:∃ i:Nat,R[i]?=some (sl a c m)):iy (ja w F) w a c m:=by
  obtain ⟨i,hi⟩:=hm;exact h.rI i hi
theorem lW.z9 {α:Type} [gT α] {M R:List Item} {F Fz:List Nat} {w1:World} {a:Option Addr} {c:Nat} {m:List α} (h:lW w0 F0 w M R F) (hr:iy (fun b=>b ∈ Fz) w1 a c m) (hm:∃ i:Nat,R[i]?=some (fz w1 Fz)):iy (ja w F) w a c m:=by
  obtain ⟨i,hi⟩:=hm;exact h.rZ i hi hr
theorem lW.DY {α:Type} [gT α] {M R:List Item} {F Fz:List Nat} {w1:World} {a:Option Addr} {c:Nat} {m:List α} (h:lW w0 F0 w M R F) (hr:kW w1 a c Fz m) (hm:∃ i:Nat,R[i]?=some (fz w1 Fz)):iy (ja w F) w a c m:=h.z9 hr.jB hm
theorem rt {B:Prop} (f:B:=by
    refine go ?_
    first | cases h | skip
    repeat' (first
      | exact trivial
      | ((with_reducible apply jM.at);(first | apply jM.one | apply jM.two | apply jM.three | apply jM.four | exact jM.zero))
      | ((with_reducible apply hP.at);(first | exact hP.t rfl | ((apply hP.bM);(exact rfl);(with_reducible assumption);(repeat (first | exact lT | apply lV));(exact j8.h);(exact rfl)) | ((apply hP.cM);(exact rfl);(with_reducible assumption);(repeat (first | exact lT | apply lV));(exact j8.h);(exact rfl))))
      | ((with_reducible apply St.Ht);(with_reducible assumption);(repeat (first | exact te.nil | ((apply te.cons);(repeat (first | exact GD | apply GC)))));(exact rfl))
      | apply And.intro
      | apply Exists.intro
      | exact rfl)):B:=f
theorem LW.Hv {dd:Option Tmp} {op:Op} {g:Option (Nat×Bool)} (h:LW P n ops Q (⟨dd,op,ty,pos,aft,g⟩::rest) e w):LW P n ops Q (⟨dd,op,ty,pos,aft,g⟩::rest) e w:=h
theorem LW.Ho {r:List Oper} {dd:Option Tmp} {op:Op} {g:Option (Nat×Bool)} (hr:r=⟨dd,op,ty,pos,aft,g⟩::rest) (h:LW P n ops Q (⟨dd,op,ty,pos,aft,g⟩::rest) e w):LW P n ops Q r e w:=by subst hr;exact h
theorem CW.GP {id:Nat} {lo:List Oper} (hg:lo.all (fun o=>o.guard.isNone)=true) (h:CW P n (.region id lo.toArray false) Q e w):CW P n (.region id lo.toArray false) Q e w:=h
theorem T {A B:Prop} (a:A) (f:(Unit→A)→B:=by
    intro a
    repeat (first
      | ((with_reducible apply CW.nr);(repeat first | (with_reducible exact rfl) | (with_reducible apply oY)))
      | with_reducible apply CW.seq
      | with_reducible apply DB
      | with_reducible apply Dz
      | with_reducible apply DD
      | with_reducible apply DS
      | with_reducible apply DV
      | with_reducible apply DW
      | ((with_reducible apply DQ);(exact rfl))
      | with_reducible apply CW.region
      | with_reducible apply CW.skip
      | with_reducible apply CW.block
      | with_reducible apply CW.exit
      | (with_reducible apply CW.ret))
    repeat (first
      | ((with_reducible apply LW.nr);(repeat first | (with_reducible exact rfl) | (with_reducible apply oY)))
      | ((with_reducible apply LW.yes);rfl;rfl;(first | assumption | rfl))
      | ((with_reducible apply LW.no);rfl;rfl;(first | assumption | rfl);rfl)
      | ((with_reducible apply LW.mv);rfl;rfl)
      | ((with_reducible apply LW.fa);(exact jo.h);rfl;rfl)
      | ((with_reducible apply LW.ld);rfl;assumption;(repeat (first | exact lT | apply lV));(exact j8.h);rfl;rfl)
      | ((with_reducible apply LW.bin);rfl;rfl;rfl;rfl)
      | ((with_reducible apply LW.B3);rfl;(first | assumption | rfl);rfl;rfl)
      | ((with_reducible apply LW.Bw);rfl;(first | assumption | rfl);rfl;rfl)
      | ((with_reducible apply LW.as);rfl;rfl)
      | ((with_reducible apply LW.B9);rfl;assumption;(repeat (first | exact lT | apply lV));(exact j8.h);rfl;rfl;(repeat (first | ((with_reducible apply Nf.cons);rfl) | ((with_reducible apply Nf.nil);rfl))))
      | ((with_reducible apply LW.len);(exact mb.h);rfl;rfl)
      | ((with_reducible apply LW.BZ);(exact mb.h);(exact qJ.h);rfl;rfl;assumption;assumption;rfl)
      | ((with_reducible apply LW.FB);rfl;rfl;rfl)
      | ((with_reducible apply LW.ext);rfl;rfl;rfl)
      | ((with_reducible apply LW.not);rfl;rfl)
      | ((with_reducible apply LW.neg);rfl;rfl)
      | ((with_reducible apply LW.FW);rfl;(with_reducible_and_instances assumption);(first | ((with_reducible apply St.qS);(with_reducible assumption);(with_reducible assumption)) | ((with_reducible apply St.zM);(with_reducible assumption);(with_reducible assumption);(repeat (first | exact lT | apply lV))));(exact j8.h);rfl;rfl)
      | ((with_reducible apply LW.EX);rfl;(with_reducible_and_instances assumption);(first | ((with_reducible apply St.qS);(with_reducible assumption);(with_reducible assumption)) | ((with_reducible apply St.zM);(with_reducible assumption);(with_reducible assumption);(repeat (first | exact lT | apply lV))));(exact j8.h);rfl;rfl)
      | ((with_reducible apply LW.Ft);rfl;(with_reducible_and_instances assumption);(first | ((with_reducible apply St.qS);(with_reducible assumption);(with_reducible assumption)) | ((with_reducible apply St.zM);(with_reducible assumption);(with_reducible assumption);(repeat (first | exact lT | apply lV))));(exact j8.h);rfl;rfl;(repeat (first | ((with_reducible apply Nf.cons);rfl) | ((with_reducible apply Nf.nil);rfl))))
      | ((with_reducible apply LW.EK);rfl;(with_reducible_and_instances assumption);(first | ((with_reducible apply St.qS);(with_reducible assumption);(with_reducible assumption)) | ((with_reducible apply St.zM);(with_reducible assumption);(with_reducible assumption);(repeat (first | exact lT | apply lV))));(exact j8.h);rfl;rfl;(repeat (first | ((with_reducible apply Nf.cons);rfl) | ((with_reducible apply Nf.nil);rfl))))
      | ((with_reducible apply LW.sT a);rfl;assumption;(repeat (first | apply Ud.hd | apply Ud.tl));(exact j8.h);rfl;(repeat (first | ((with_reducible apply Nf.cons);rfl) | ((with_reducible apply Nf.nil);rfl)));rfl;rfl;rfl;(repeat (first | ((with_reducible apply Nf.cons);rfl) | ((with_reducible apply Nf.nil);rfl)));(clear a);intro w s a)
      | ((with_reducible apply LW.bT a);rfl;(repeat (first | ((with_reducible apply Nf.cons);rfl) | ((with_reducible apply Nf.nil);rfl)));assumption;rfl;(clear a);intro g w s a)
      | ((with_reducible apply LW.aT a);(repeat (first | ((with_reducible apply Nf.cons);rfl) | ((with_reducible apply Nf.nil);rfl)));assumption;rfl;(clear a);intro g w s a)
      | ((with_reducible apply LW.Fv);(apply gK (by first | with_reducible exact h | exact h) a);(clear a);(intro y hy h a);(with_reducible apply LW.kL a);(intro t;apply t;(with_reducible exact hy));(case hargs=>(repeat (first | exact sB.nil | (apply sB.cons;rfl))));(case hd=>exact rfl);
          (repeat (first | exact rfl | exact ik (oi (by with_reducible assumption)) | ((with_reducible apply St.rB);(with_reducible assumption);(with_reducible assumption)) | ((with_reducible apply St.rM);(with_reducible assumption);(repeat (first | exact lT | apply lV));with_reducible fail_if_success (apply Dt)) | ((with_reducible apply St.z9);(with_reducible assumption);(with_reducible assumption);(repeat (first | exact lT | apply lV))) | ((with_reducible apply St.DY);(with_reducible assumption);(with_reducible assumption);(repeat (first | exact lT | apply lV)))));
          (clear a);(repeat ((with_reducible apply KX.ex);intro c));(first | ((with_reducible apply KX.f0);(with_reducible assumption)) | ((with_reducible apply KX.f1);(with_reducible assumption)));intro w s a)
      | ((with_reducible apply LW.Fv);(apply gK (by first | with_reducible exact h | exact h) a);(clear a);(intro y hy h a);(with_reducible apply LW.kE a);(with_reducible assumption);(intro F u t;apply t;(with_reducible exact hy));(case hargs=>(repeat (first | exact sB.nil | (apply sB.cons;rfl))));(case hd=>exact rfl);(all_goals (try (with_reducible apply lW.st u)));
          (case hsel=>(repeat (first | exact te.nil | ((apply te.cons);(repeat (first | exact GD | apply GC))))));(case hR=>exact rfl);(case hn=>exact rfl);
          (repeat (first | exact rfl | exact ik (oi (by with_reducible assumption)) | ((with_reducible apply lW.rB);(with_reducible assumption);(with_reducible assumption)) | ((with_reducible apply lW.rM);(with_reducible assumption);(repeat (first | exact lT | apply lV));with_reducible fail_if_success (apply Dt)) | ((with_reducible apply lW.z9);(with_reducible assumption);(with_reducible assumption);(repeat (first | exact lT | apply lV));with_reducible fail_if_success (apply Dt)) | ((with_reducible apply lW.DY);(with_reducible assumption);(with_reducible assumption);(repeat (first | exact lT | apply lV)))));
          (intro F u);(clear a);(repeat ((with_reducible apply KX.ex);intro c));((with_reducible apply KX.fE);(with_reducible assumption));intro w s a)
      | ((with_reducible apply LW.Fv);(with_reducible apply LW.kL a);(intro t;apply t;(with_reducible assumption));(case hargs=>(repeat (first | exact sB.nil | (apply sB.cons;rfl))));(case hd=>exact rfl);
          (repeat (first | exact rfl | exact ik (oi (by with_reducible assumption)) | ((with_reducible apply St.rB);(with_reducible assumption);(with_reducible assumption)) | ((with_reducible apply St.rM);(with_reducible assumption);(repeat (first | exact lT | apply lV));with_reducible fail_if_success (apply Dt)) | ((with_reducible apply St.z9);(with_reducible assumption);(with_reducible assumption);(repeat (first | exact lT | apply lV))) | ((with_reducible apply St.DY);(with_reducible assumption);(with_reducible assumption);(repeat (first | exact lT | apply lV)))));
          (clear a);(repeat ((with_reducible apply KX.ex);intro c));(first | ((with_reducible apply KX.f0);(with_reducible assumption)) | ((with_reducible apply KX.f1);(with_reducible assumption)));intro w s a)
      | ((with_reducible apply Hm);(repeat (first | exact jZ | ((with_reducible apply Kept.c);(case h=>(first | ((with_reducible apply St.cA);(with_reducible assumption);(repeat (first | exact lT | apply lV));done) | ((with_reducible apply St.qS);(with_reducible assumption);(with_reducible assumption)) | ((with_reducible apply St.zM);(with_reducible assumption);(with_reducible assumption);(repeat (first | exact lT | apply lV));done)))) | ((with_reducible apply Kept.w);(decide +kernel)))))
      | with_reducible apply LW.nil
      | ((with_reducible apply CW.nr);(repeat first | (with_reducible exact rfl) | (with_reducible apply oY)))
      | with_reducible apply CW.seq
      | with_reducible apply DB
      | with_reducible apply Dz
      | with_reducible apply DD
      | with_reducible apply DS
      | with_reducible apply DV
      | with_reducible apply DW
      | ((with_reducible apply DQ);(exact rfl))
      | ((with_reducible apply CW.GP);rfl;(with_reducible apply CW.region))
      | with_reducible apply CW.skip
      | with_reducible apply CW.exit
      | (with_reducible apply CW.ret)
      | ((with_reducible apply AW.nr);(repeat first | (with_reducible exact rfl) | (with_reducible apply oY)))
      | refine gA ?_
      | refine Hg ?_
      | ((with_reducible apply AW.Fo);(first | ((apply AW.oN 0);(first | exact Nx.set _ _ | exact Nx.start _);rfl;(decide +kernel);(decide +kernel)) | ((apply AW.oN 1);(first | exact Nx.set _ _ | exact Nx.start _);rfl;(decide +kernel);(decide +kernel)) | ((apply AW.oN 2);(first | exact Nx.set _ _ | exact Nx.start _);rfl;(decide +kernel);(decide +kernel))))
      | ((fail_if_success (with_reducible apply LW.Hv));(with_reducible apply LW.Ho);rfl))
    exact a ()):B:=f fun _=>a
end
end Go.Kx
