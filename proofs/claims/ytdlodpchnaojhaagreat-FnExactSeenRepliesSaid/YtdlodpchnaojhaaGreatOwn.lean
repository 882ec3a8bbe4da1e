import Derived.Test.YtdlodpchnaojhaaGreatFn
namespace Go.Kx
open Go Go.RowKit
set_option linter.unusedVariables false
set_option linter.unusedSimpArgs false
section
variable {P:Program} {w0 w w1:World} {F0 F:List Nat} {L M:List Item} {α:Type} [hD α]
structure nK (w0:World) (F0:List Nat) (w:World) (L M:List Item) (F:List Nat):Prop where
  st:St w F w L
  M5:∀ b,jo w0 F0 b→jo w F b∧w.heap[b]?=w0.heap[b]?
  rest:∀ (i:Nat) (it:Item),M[i]?=some it→∃ Fi,it.p w Fi∧∀ b,b ∈ Fi→jo w F b
  back:∀ w' L',St w F w' L'→St w0 F0 w' (L'++M)
theorem St.LB (h:St w0 F0 w (L++M)):∃ F,nK w0 F0 w L M F:=by
  obtain ⟨F,h1,h2,h3,h4,h5,h6⟩:=h.share;exact ⟨F,⟨St.init h1 h2 h3,fun b hb=>⟨h4 b hb,h.same b hb.1 hb.2⟩,h5,h6⟩⟩
theorem nK.rB {a:Option Addr} {c:Nat} {l:List α} (h:nK w0 F0 w L M F) (hr:iM (jo w0 F0) w0 a c l):iM (jo w F) w a c l :=
  (hr.mf fun b hb=>(h.M5 b hb).2).mono fun b hb=>(h.M5 b hb).1
theorem nK.rI {a:Option Addr} {c:Nat} {l:List α} (h:nK w0 F0 w L M F) (i:Nat) (hi:M[i]?=some (sl a c l)):iM (jo w F) w a c l:=by
  obtain ⟨Fi,q,q2⟩:=h.rest i _ hi;exact mc.rd q q2
theorem nK.rZ {Fz:List Nat} {a:Option Addr} {c:Nat} {l:List α} (h:nK w0 F0 w L M F) (i:Nat) (hi:M[i]?=some (fz w1 Fz)) (hr:iM (fun b=>b ∈ Fz) w1 a c l):iM (jo w F) w a c l:=by
  obtain ⟨Fi,q,q2⟩:=h.rest i _ hi;obtain ⟨rfl,q3⟩:=q;exact (hr.mf fun b hm=>q3 b hm).mono fun b hm=>q2 b hm
def hole (α:Type) [hD α] (a:Option Addr) (c:Nat) (l:List α) (k:Nat) (cs:List Value):Item :=
  ⟨fun w F=>∃ g o cur G0 G2 c0 c2,a=some ⟨g,o,none⟩∧w.heap[g]?=some (.cells cur (hD.ty α) (0,0))∧o+c * hD.sz α≤cur.size∧l.length≤c∧c≤maxLen∧F=g::(G0++G2) ∧
      cur.toList.drop o=c0++(cs++c2)∧c0.length=k * hD.sz α∧cs.length=hD.sz α∧k<l.length∧o≤cur.size ∧
      ∀ (w':World) (d1:List Value) (G1:List Nat) (y:α),hD.own w' d1 G1 y→(∀ b,b ∈ G0++G2→w'.heap[b]?=w.heap[b]?)→jC w' (c0++(d1++c2)) (G0++(G1++G2)) (l.set k y),
   by
    rintro w w' F ⟨g,o,cur,G0,G2,c0,c2,ha,hg,h1,h2,h3,rfl,h4,h5,h6,h7,h8,h9⟩ hb
    exact ⟨g,o,cur,G0,G2,c0,c2,ha,(hb g (by simp)).trans hg,h1,h2,h3,rfl,h4,h5,h6,h7,h8,
      fun w'' d1 G1 y hy hh=>h9 w'' d1 G1 y hy fun b hm=>(hh b hm).trans (hb b (List.mem_cons_of_mem _ hm))⟩⟩
theorem HH {c1 cs:List Value} {f:Nat→Option Value} (hl:c1.length=cs.length) (h1:∀ j u,c1[j]?=some u→f j=some u) (h2:∀ j u,cs[j]?=some u→f j=some u):c1=cs:=by
  apply List.ext_getElem?;intro j
  by_cases hj:j<c1.length
  · have a1:=h1 j _ (List.getElem?_eq_getElem hj);have a2:=h2 j _ (List.getElem?_eq_getElem (hl ▸ hj));rw [List.getElem?_eq_getElem hj,List.getElem?_eq_getElem (hl ▸ hj)];exact a1.symm.trans a2
  · rw [List.getElem?_eq_none (by omega),List.getElem?_eq_none (by omega)]
theorem St.Jg {w0 w:World} {F0:List Nat} {L M:List Item} {i:Nat} {y:Item} (h:St w0 F0 w ((M++[y])++L.eraseIdx i)) (hi:i<L.length):St w0 F0 w (M++L.set i y) :=
  h.perm (by rw [List.append_assoc];exact (eraseIdx_set L i y hi).append_left M)
theorem St.focus {c b o:Nat} {l:List α} {k:Int} {x:α} {cs:List Value} (h:St w0 F0 w L) (i:Nat) (hi:L[i]?=some (sl (some ⟨b,o,none⟩) c l)) (hx:idx l k=some x) (hl:cs.length=hD.sz α)
    (hcs:∀ (j:Nat) (u:Value),cs[j]?=some u→w.cell? ⟨b,o+k.toNat * hD.sz α+j,none⟩=some u) :
    ∃ Fx,hD.own w cs Fx x∧∀ M,iP M w Fx→St w0 F0 w (M++L.set i (hole α (some ⟨b,o,none⟩) c l k.toNat cs)):=by
  obtain ⟨Fi,ho,hS⟩:=h.freeze i hi;unfold Kx.idx at hx;split at hx
  case isFalse=>cases hx
  case isTrue h0 =>
  have hlt:=ja hx
  rcases ho with ⟨_,_,rfl,_⟩ | ⟨g,o',cur,F',ha,hg,hs,h1,h2,hF,he⟩
  · simp at hlt
  · cases ha;obtain ⟨c0,c1,c2,G0,G1,G2,hc,rfl,hl0,q1,q2⟩:=he.set k.toNat hx;have hl1:=hD.iU q1
    have e:c1=cs:=by
      refine HH (f:=fun j=>w.cell? ⟨b,o+k.toNat * hD.sz α+j,none⟩) (hl1.trans hl.symm) (fun j u hu=>?_) hcs;have hj:j<c1.length:=ja hu
      show w.cell? _=_
      rw [cell_of_row w b _ cur _ (0,0) hg,Nat.add_assoc]
      have:(cur.toList.drop o)[k.toNat * hD.sz α+j]?=some u:=by
        rw [hc,List.getElem?_append_right (by omega),hl0,Nat.add_sub_cancel_left,List.getElem?_append_left hj];exact hu
      rw [List.getElem?_drop] at this;simpa using this
    subst e
    have hoc:o≤cur.size:=by omega
    refine ⟨G1,q1,fun M hM=>St.Jg (St.head (x:=fz w Fi) (M:=M++[_]) (hS.front i (by rw [List.getElem?_set_self (ja hi)])) fun G hG hn hlt2=>?_ ) (by simpa using ja hi) |> fun q=>by simpa using q⟩;obtain ⟨rfl,_⟩:=hG;subst hF;obtain ⟨hgn,hnd⟩:=List.nodup_cons.1 hn;obtain ⟨n0,n12,d0⟩:=List.nodup_append.1 hnd;obtain ⟨n1,n2,d12⟩:=List.nodup_append.1 n12;refine ⟨rfl,rfl,rfl,Nat.le_refl _,fun _ _ _=>rfl,G1++(b::(G0++G2)),iP.append.2 ⟨G1,_,rfl,hM,_,[],by simp,⟨b,o,cur,G0,G2,c0,c2,rfl,hg,hs,h1,h2,rfl,hc,hl0,hl,hlt,hoc,q2⟩,rfl⟩,?_,?_⟩
    · refine List.nodup_append.2 ⟨n1,List.nodup_cons.2 ⟨fun hm=>hgn ?_,List.nodup_append.2 ⟨n0,n2,fun a ha d hd e=>d0 a ha d (List.mem_append_right _ hd) e⟩⟩,fun a ha d hd e=>?_⟩
      · rcases List.mem_append.1 hm with q | q<;>simp [q]
      · subst e
        rcases List.mem_cons.1 hd with rfl | hd
        · exact hgn (by simp [ha])
        · rcases List.mem_append.1 hd with q | q
          · exact d0 a q a (List.mem_append_left _ ha) rfl
          · exact d12 a ha a q rfl
    · intro d hd
      have:d ∈ b::(G0++(G1++G2)):=by
        simp only [List.mem_append,List.mem_cons] at hd ⊢
        rcases hd with q | q | q | q<;>simp [q]
      exact ⟨.inl this,hlt2 d this⟩
theorem St.v7 {b o c k:Nat} {l:List α} {cs:List Value} (h:St w0 F0 w L) (i:Nat) (hi:L[i]?=some (hole α (some ⟨b,o,none⟩) c l k cs)) {j:Nat} {u:Value} (hu:cs[j]?=some u):w.cell? ⟨b,o+k * hD.sz α+j,none⟩=some u:=by
  obtain ⟨F,hF,_,_⟩:=h.own;obtain ⟨Fi,⟨g,o',cur,G0,G2,c0,c2,ha,hg,_,_,_,_,h4,h5,h6,_⟩,_⟩:=hF.at_ i hi;cases ha;have hj:=ja hu;rw [cell_of_row w b _ cur _ (0,0) hg,Nat.add_assoc]
  have:(cur.toList.drop o)[k * hD.sz α+j]?=some u:=by
    rw [h4,List.getElem?_append_right (by omega),h5,Nat.add_sub_cancel_left,List.getElem?_append_left hj];exact hu
  rw [List.getElem?_drop] at this;simpa using this
theorem St.KQ {a:Option Addr} {c k:Nat} {l:List α} {cs:List Value} {y:α} (h:St w0 F0 w (M++L)) (i:Nat) (hi:L[i]?=some (hole α a c l k cs)) (hM:∀ (w:World) (G:List Nat),iP M w G→hD.own w cs G y) :
    St w0 F0 w (L.set i (sl a c (l.set k y))):=by
  have h':St w0 F0 w ((M++[hole α a c l k cs])++L.eraseIdx i):=by
    refine h.perm ?_;rw [List.append_assoc];exact (xi L i _ hi).append_left M
  obtain ⟨F,hF,hn,hlt,_,_,hm⟩:=h'.share;refine (hm w [sl a c (l.set k y)] ?_).perm (eraseIdx_set L i _ (ja hi));obtain ⟨F1,F2,rfl,q1,F3,F4,rfl,⟨g,o,cur,G0,G2,c0,c2,ha,hg,h1,h2,h3,rfl,h4,h5,h6,h7,h8,h9⟩,q4⟩:=iP.append.1 hF;cases (show F4=[] from q4);have hE:=h9 w cs F1 y (hM w F1 q1) (fun _ _=>rfl);rw [List.append_nil] at hn hlt ⊢;obtain ⟨n1,n2,nd⟩:=List.nodup_append.1 hn;obtain ⟨m1,m2⟩:=List.nodup_cons.1 n2;obtain ⟨k0,k2,kd⟩:=List.nodup_append.1 m2;refine ⟨rfl,rfl,rfl,Nat.le_refl _,fun _ _ _=>rfl,g::(G0++(F1++G2)),⟨g::(G0++(F1++G2)),[],(List.append_nil _).symm,.inr ⟨g,o,cur,_,ha,hg,h1,by simpa using h2,h3,rfl,?_⟩,rfl⟩,?_,?_⟩
  · rw [h4];exact hE
  · refine List.nodup_cons.2 ⟨fun hm=>?_,List.nodup_append.2 ⟨k0,List.nodup_append.2 ⟨n1,k2,fun p hp d hd e=>nd p hp d (by simp [hd]) e⟩,fun p hp d hd e=>?_⟩⟩
    · simp only [List.mem_append] at hm
      rcases hm with q | q | q
      · exact m1 (by simp [q])
      · exact nd g q g (by simp) rfl
      · exact m1 (by simp [q])
    · subst e
      rcases List.mem_append.1 hd with q | q
      · exact nd p q p (by simp [hp]) rfl
      · exact kd p hp p q rfl
  · intro d hd
    have:d ∈ F1++(g::(G0++G2)):=by
      simp only [List.mem_append,List.mem_cons] at hd ⊢
      rcases hd with q | q | q | q<;>simp [q]
    exact ⟨.inl this,hlt d this⟩
end
section
variable {P:Program} {w0 w w1:World} {F0 F:List Nat} {L M:List Item} {α:Type} [hD α]
variable {n:Nat} {Q:kN} {e:Env} {ops:Array Oper} {rest:List Oper} {ty:TypeId} {pos:String} {aft:Array Edge} {d:Nat} {v:Value}
theorem LW.vN {t:TypeId} {x y:Operand} {av:Option Nat} {g o off j c k:Nat} {l:List α} {cs vs:List Value} (hS:St w0 F0 w L) (i:Nat) (hi:L[i]?=some (hole α (some ⟨g,o,none⟩) c l k cs)) (ht:jl P t=some av)
    (hx:ev e x=.pointer (some ⟨g,off,none⟩)) (hoff:off=o+k * hD.sz α+j) (hy:(ev e y).cells.toList=vs) (hm:vs.length=av.getD 1) (hl:Nat.ble (j+vs.length) cs.length=true) (h1:vs.all (·.oneCell')=true)
    (h:∀ w':World,St w0 F0 w' (L.set i (hole α (some ⟨g,o,none⟩) c l k (xH cs j vs)))→Fr w w' [g]→LW P n ops Q rest e w'):LW P n ops Q (⟨none,.store t x y,ty,pos,aft,none⟩::rest) e w:=by
  subst hoff;have hl:=Nat.le_of_ble_eq_true hl;obtain ⟨Fa,hFa,_,_⟩:=hS.own;obtain ⟨Fi,⟨g',o',cur,G0,G2,c0,c2,ha,hg,p1,p2,p3,rfl,p4,p5,p6,p7,p8,p9⟩,_⟩:=hFa.at_ i hi;cases ha
  have hlen:cur.size=o+(c0.length+(cs.length+c2.length)):=by
    have:=congrArg List.length p4;rw [List.length_drop,Array.length_toList] at this;simp only [List.length_append] at this;omega
  have hr:=run_storeCells_at P g (o+k * hD.sz α+j) (hD.ty α) vs 0 cur w hg (by omega) (fun u hu=>List.all_eq_true.1 h1 u hu);simp only [Nat.add_zero] at hr
  have hto:(cur.toList.take o).length=o:=by rw [List.length_take,Array.length_toList];omega
  have hcc:cur.toList=(cur.toList.take o++c0)++(cs++c2):=by rw [List.append_assoc, ← p4,List.take_append_drop]
  have hspl:cur.toList.take (o+k * hD.sz α+j)++vs++cur.toList.drop (o+k * hD.sz α+j+vs.length)=(cur.toList.take o++c0)++(xH cs j vs++c2):=by
    have hl0:(cur.toList.take o++c0).length=o+k * hD.sz α:=by rw [List.length_append,hto,p5]
    have:=Fs (cur.toList.take o++c0) cs c2 vs j hl;rw [← hcc,hl0, ← Av cs j vs hl] at this;exact this
  have hsl:(xH cs j vs).length=cs.length:=by rw [Av cs j vs hl];simp;omega
  refine LW.Bc (w':=w.setRow g (cur.toList.take (o+k * hD.sz α+j)++vs++cur.toList.drop (o+k * hD.sz α+j+vs.length)).toArray) ?_ (h _ (hS.setAt hi fun G hG hn hlt=>?_) ⟨by simp,fun b _ hb=>setRow_other w g b _ (by simpa using hb)⟩)
  · have:=pt (w:=w) ht
    have hy2:(ev e y).cells.size=av.getD 1:=by rw [← hm, ← hy,Array.length_toList]
    simp [execOp,Instr.storeAt,Instr.sureAddr,hx,storeVar,hy,hy2,this.2,hr]
  · obtain ⟨g',o',cur',G0',G2',c0',c2',ha,hg',q1,q2,q3,rfl,q4,q5,q6,q7,q8,q9⟩:=hG;cases ha;rw [hg] at hg';cases hg';have hoth:∀ b,b ≠ g→(w.setRow g (cur.toList.take (o+k * hD.sz α+j)++vs++cur.toList.drop (o+k * hD.sz α+j+vs.length)).toArray).heap[b]?=w.heap[b]?:=fun b hb=>setRow_other w g b _ hb;obtain ⟨m1,m2⟩:=List.nodup_cons.1 hn
    have e1:c0=c0'∧c2=c2':=by
      rw [p4] at q4;have r1:=List.append_inj q4 (by omega);exact ⟨r1.1,(List.append_inj r1.2 rfl).2⟩
    obtain ⟨rfl,rfl⟩:=e1;refine ⟨rfl,rfl,rfl,by simp,fun b _ hno=>hoth b fun e=>hno (by simp [e]),g::(G0'++G2'),⟨_,[],by simp,⟨g,o,_,G0',G2',c0,c2,rfl,setRow_heap w g cur _ _ _ hg,?_,q2,q3,rfl,?_,p5,by omega,p7,?_,?_⟩,rfl⟩,hn,fun b hb=>⟨.inl hb,by simpa using hlt b hb⟩⟩
    · rw [hspl];simp [hto,hsl];omega
    · simp only [List.toList_toArray];rw [hspl,List.append_assoc];exact List.drop_left' hto
    · rw [hspl];simp [hto]
    · intro w'' d1 G1 y' hy' hb;exact q9 w'' d1 G1 y' hy' fun b hm=>(hb b hm).trans (hoth b fun e=>m1 (e ▸ hm))
def sub {α:Type} (l:List α) (i j:Int):Option (List α):=if 0≤i∧i≤j∧j≤(l.length:Int) then some ((l.drop i.toNat).take (j.toNat - i.toNat)) else none
theorem qd {α:Type} {l m:List α} {i j:Int} (h:sub l i j=some m):0≤i∧i≤j∧j≤(l.length:Int)∧m=(l.drop i.toNat).take (j.toNat - i.toNat)∧m.length=j.toNat - i.toNat:=by
  unfold sub at h;split at h
  · rename_i hc;cases h;obtain ⟨h1,h2,h3⟩:=hc;exact ⟨h1,h2,h3,rfl,by rw [List.length_take,List.length_drop];omega⟩
  · cases h
def J2 (ρ:Operand→Value) (x:Option Operand) (d i:Int):Prop :=
  match x with
  | none=>i=d
  | some x=>∃ k,ρ x=.int k i
theorem uO {ρ:Operand→Value} {d:Int}:J2 ρ none d d:=rfl
theorem uN {ρ:Operand→Value} {x:Operand} {k:IntKind} {d i:Int} (h:ρ x=.int k i):J2 ρ (some x) d i:=⟨k,h⟩
def mT (a:Option Addr) (c i m:Nat):Option Addr:=if c=i then a else a.map fun b=>b.add (i * m)
theorem iq.sub {ρ:Operand→Value} {t:TypeId} {x:Operand} {lo hi:Option Operand} {a:Option Addr} {c:Nat} {l m:List α} {i j:Int} (hT:P.underlying t=some (.slice (hD.ty α))) (hz:nF P (hD.ty α)=some (hD.sz α)) (hx:ρ x=.slice a l.length c)
    (hlo:J2 ρ lo 0 i) (hhi:J2 ρ hi (l.length:Int) j) (hs:Kx.sub l i j=some m) (hlc:l.length≤c) {a':Option Addr} {c':Nat} (e1:a'=mT a c i.toNat (hD.sz α)) (e2:c'=c - i.toNat):iq P ρ (.slice t x lo hi none) (.slice a' m.length c'):=by
  subst e1;subst e2;obtain ⟨h1,h2,h3,rfl,hm⟩:=qd hs;intro d ty pos aft gd w;rw [hm]
  cases hi':P.info? (hD.ty α) with
  | none=>simp [nF,hi'] at hz
  | some inf =>
    have hz':inf.size=hD.sz α:=by simpa [nF,hi'] using hz
    have h4:0≤j:=by omega
    have h5:j≤(c:Int):=by omega
    have h6:i≤(j.toNat:Int):=by omega
    have hb:(Instr.sliceBounds true l.length c (lo.map ρ) (hi.map ρ) none).run P w=.ok (i.toNat,j.toNat,c) w:=by
      cases lo with
      | none =>
        cases (show i=0 from hlo)
        cases hi with
        | none =>
          cases (show j=_ from hhi);simp [Instr.sliceBounds]
        | some y =>
          obtain ⟨k,hy⟩:=hhi;simp [Instr.sliceBounds,Instr.sliceBound,hy,asIntOf,h4,h5]
      | some x' =>
        obtain ⟨k',hx'⟩:=hlo
        cases hi with
        | none =>
          cases (show j=_ from hhi);simp [Instr.sliceBounds,Instr.sliceBound,hx',asIntOf,h1,h3];omega
        | some y =>
          obtain ⟨k,hy⟩:=hhi;simp [Instr.sliceBounds,Instr.sliceBound,hx',hy,asIntOf,h1,h4,h5];omega
    have hcu:(if c=i.toNat then a else a.map fun b=>b.add (i.toNat * inf.size))=mT a c i.toNat (hD.sz α):=by unfold mT;rw [hz']
    simp [execOp,Instr.sliceAt,Instr.slice,run_underlying hT,hx,hb,sizeOf,typeInfo,hi', ← hcu]
theorem iM.sub {S:Nat→Prop} {a:Option Addr} {c:Nat} {l m:List α} {i j:Int} (h:iM S w a c l) (hs:Kx.sub l i j=some m):iM S w (mT a c i.toNat (hD.sz α)) (c - i.toNat) m:=by
  obtain ⟨h1,h2,h3,rfl,hm⟩:=qd hs;have hle:=h.le;refine ⟨by rw [hm];omega,Nat.le_trans (Nat.sub_le _ _) h.cap,fun hne=>?_⟩;have hlen:0<((l.drop i.toNat).take (j.toNat - i.toNat)).length:=List.length_pos_iff.2 hne;obtain ⟨b,o,rfl,hb,hc⟩:=h.cells (by rintro rfl;simp at hlen)
  have hci:¬ c=i.toNat:=by omega
  refine ⟨b,o+i.toNat * hD.sz α,by unfold mT;rw [if_neg hci];simp [add_lit],hb,fun k x hx=>?_⟩;rw [List.getElem?_take] at hx;split at hx
  · rw [List.getElem?_drop] at hx;obtain ⟨cs,q1,q2⟩:=hc _ x hx;refine ⟨cs,q1,fun p u hu=>?_⟩;have:=q2 p u hu;rw [Nat.add_mul, ← Nat.add_assoc] at this;exact this
  · cases hx
theorem iM.uL {S:Nat→Prop} {a:Option Addr} {c:Nat} {l m:List α} {i j:Int} (h:iM S w a c l) (hs:Kx.sub l i j=some m):∃ (a':Option Addr) (c':Nat),a'=mT a c i.toNat (hD.sz α)∧c'=c - i.toNat∧iM S w a' c' m :=
  ⟨_,_,rfl,rfl,h.sub hs⟩
theorem jC.drop:∀ (k:Nat) {l:List α} {cs:List Value} {F:List Nat},jC w cs F l→∃ F1 F2,F=F1++F2∧jC w (cs.drop (k * hD.sz α)) F2 (l.drop k)
  | 0,_,_,F,h=>⟨[],F,rfl,by simpa using h⟩
  | k+1,[],cs,F,h=>⟨[],F,rfl,h⟩
  | k+1,x::l,cs,F,⟨c1,c2,F1,F2,hc,hF,h1,h2⟩=>by
    obtain ⟨G1,G2,rfl,q⟩:=jC.drop k h2;refine ⟨F1++G1,G2,by simp [hF],?_⟩
    have e:cs.drop ((k+1) * hD.sz α)=c2.drop (k * hD.sz α):=by
      rw [hc,Nat.succ_mul,Nat.add_comm, ← hD.iU h1,List.drop_length_add_append]
    rw [e];exact q
theorem jC.JU:∀ (k:Nat) {l:List α} {cs:List Value} {F:List Nat},jC w cs F l→∃ F1 F2,F=F1++F2∧jC w cs F1 (l.take k)
  | 0,l,_,F,h=>⟨[],F,rfl,by simp [jC]⟩
  | k+1,[],cs,F,h=>⟨F,[],by simp,by simpa using h⟩
  | k+1,x::l,cs,F,⟨c1,c2,F1,F2,hc,hF,h1,h2⟩=>by
    obtain ⟨G1,G2,rfl,q⟩:=jC.JU k h2;exact ⟨F1++G1,G2,by simp [hF],by rw [List.take_succ_cons];exact ⟨c1,c2,F1,G1,hc,rfl,h1,q⟩⟩
theorem St.sub {a:Option Addr} {c:Nat} {l m:List α} {i j:Int} (h:St w0 F0 w L) (k:Nat) (hi:L[k]?=some (sl a c l)) (hs:Kx.sub l i j=some m):l.length≤c∧St w0 F0 w (L.set k (sl (mT a c i.toNat (hD.sz α)) (c - i.toNat) m)):=by
  refine ⟨?_,h.setAt hi fun F hF hn hlt=>?_⟩
  · obtain ⟨F,hF,_,_⟩:=h.own;obtain ⟨Fi,q,_⟩:=hF.at_ k hi
    rcases q with ⟨_,_,rfl,_⟩ | ⟨_,_,_,_,_,_,_,h1,_⟩
    · simp
    · exact h1
  · obtain ⟨h1,h2,h3,rfl,hm⟩:=qd hs
    rcases hF with ⟨rfl,rfl,rfl,rfl⟩ | ⟨g,o,cur,F',rfl,hg,hz,q1,q2,rfl,he⟩
    · refine St.init (F:=[]) ⟨[],[],rfl,.inl ⟨by simp [mT],by simp,by simp,rfl⟩,rfl⟩ List.nodup_nil (by simp)
    · obtain ⟨G1,G2,hG,e1⟩:=jC.drop i.toNat he;obtain ⟨G3,G4,hG',e2⟩:=jC.JU (j.toNat - i.toNat) e1;subst hG;subst hG'
      have hnn:(g::G3).Nodup:=by
        refine hn.sublist ?_;simp only [List.cons_sublist_cons];exact (List.sublist_append_left G3 G4).trans (List.sublist_append_right _ _)
      refine ⟨rfl,rfl,rfl,Nat.le_refl _,fun _ _ _=>rfl,g::G3,⟨g::G3,[],(List.append_nil _).symm,.inr ?_,rfl⟩,hnn,fun b hb=>?_⟩
      · by_cases hc:c=i.toNat
        · have hl0:(l.drop i.toNat).take (j.toNat - i.toNat)=[]:=by rw [List.drop_eq_nil_of_le (by omega)];simp
          rw [hl0] at e2 ⊢;refine ⟨g,o,cur,G3,by simp [mT,hc],hg,?_,by simp,by omega,rfl,e2⟩;rw [hc];simp;omega
        · refine ⟨g,o+i.toNat * hD.sz α,cur,G3,by simp [mT,hc,add_lit],hg,?_,by rw [hm];omega,by omega,rfl,?_⟩
          · have:i.toNat+(c - i.toNat)=c:=by omega
            rw [Nat.add_assoc, ← Nat.add_mul,this];exact hz
          · rw [← List.drop_drop];exact e2
      · have:b ∈ g::(G1++(G3++G4)):=by
          rcases List.mem_cons.1 hb with rfl | hb
          · simp
          · simp [hb]
        exact ⟨.inl this,hlt b this⟩
theorem St.uL {a:Option Addr} {c:Nat} {l m:List α} {i j:Int} (h:St w0 F0 w L) (k:Nat) (hi:L[k]?=some (sl a c l)) (hs:Kx.sub l i j=some m) :
    l.length≤c∧∃ (a':Option Addr) (c':Nat),a'=mT a c i.toNat (hD.sz α)∧c'=c - i.toNat∧St w0 F0 w (L.set k (sl a' c' m)):=by
  obtain ⟨h1,h2⟩:=St.sub h k hi hs;exact ⟨h1,_,_,rfl,rfl,h2⟩
end
def kI {α β:Type} (l m:List α) (k:Option β):Option β:=if l.length=m.length then k else none
theorem iN {α β:Type} {l m:List α} {k:Option β} {y:β} (h:kI l m k=some y):l.length=m.length∧k=some y:=by
  unfold kI at h;split at h
  · rename_i hc;exact ⟨hc,h⟩
  · cases h
theorem ib.b1 {P:Program} {e:Env} {w w0:World} {F0:List Nat} {L:List Item} {a T:Nat} {g:Nat} {bt:TypeId} {cs:List Value} {v:Value} (hS:St w0 F0 w L) (i:Nat) (hi:L[i]?=some (bx g bt cs)) (ht:jl P T=some none) (ha:e a=.pointer (some ⟨g,0,none⟩)) (hv:v8 cs 0=some v):ib P e w (.cell a T) v:=by
  have hl:=jf.box (P:=P) (ρ:=ev e) (x:=.tmp a) (o:=0) (cs:=cs) (bt:=bt) (fr:=(0,0)) ht ha hv;refine ⟨_,ha,?_⟩;have h1:=hl none 0 "" #[] none w (St.cell (h:=hS) hi);have ha':ev e (.tmp a)=.pointer (some ⟨g,0,none⟩):=ha;simp only [execOp,Instr.loadAt,ha',Instr.sureAddr] at h1
  cases hr:(loadVar T ⟨g,0,none⟩).run P w with
  | ok v w'=>simp [hr] at h1;obtain ⟨h2,h3⟩:=h1;subst h2;subst h3;rfl
  | halt x w'=>simp [hr] at h1
end Go.Kx
