import Derived.Test.YtlcgibcdiikheaaGreatDraw
namespace Go.Kx
open Go Go.RowKit
set_option linter.unusedVariables false
set_option linter.unusedSimpArgs false
section
variable {P:Program} {w0 w w1:World} {F0 F:List Nat} {L M:List Item} {α:Type} [gT α]
structure lW (w0:World) (F0:List Nat) (w:World) (L M:List Item) (F:List Nat):Prop where
  st:St w F w L
  Gv:∀ b,ja w0 F0 b→ja w F b∧w.heap[b]?=w0.heap[b]?
  rest:∀ (i:Nat) (it:Item),M[i]?=some it→∃ Fi,it.p w Fi∧∀ b,b ∈ Fi→ja w F b
  back:∀ w' L',St w F w' L'→St w0 F0 w' (L'++M)
theorem St.Fs (h:St w0 F0 w (L++M)):∃ F,lW w0 F0 w L M F:=by
  obtain ⟨F,h1,h2,h3,h4,h5,h6⟩:=h.share;exact ⟨F,⟨St.init h1 h2 h3,fun b hb=>⟨h4 b hb,h.same b hb.1 hb.2⟩,h5,h6⟩⟩
theorem lW.rB {a:Option Addr} {c:Nat} {l:List α} (h:lW w0 F0 w L M F) (hr:iy (ja w0 F0) w0 a c l):iy (ja w F) w a c l :=
  (hr.kT fun b hb=>(h.Gv b hb).2).mono fun b hb=>(h.Gv b hb).1
theorem lW.rI {a:Option Addr} {c:Nat} {l:List α} (h:lW w0 F0 w L M F) (i:Nat) (hi:M[i]?=some (sl a c l)):iy (ja w F) w a c l:=by
  obtain ⟨Fi,q,q2⟩:=h.rest i _ hi;exact kW.rd q q2
theorem lW.rZ {Fz:List Nat} {a:Option Addr} {c:Nat} {l:List α} (h:lW w0 F0 w L M F) (i:Nat) (hi:M[i]?=some (fz w1 Fz)) (hr:iy (fun b=>b ∈ Fz) w1 a c l):iy (ja w F) w a c l:=by
  obtain ⟨Fi,q,q2⟩:=h.rest i _ hi;obtain ⟨rfl,q3⟩:=q;exact (hr.kT fun b hm=>q3 b hm).mono fun b hm=>q2 b hm
def hole (α:Type) [gT α] (a:Option Addr) (c:Nat) (l:List α) (k:Nat) (cs:List Value):Item :=
  ⟨fun w F=>∃ g o cur G0 G2 c0 c2,a=some ⟨g,o,none⟩∧w.heap[g]?=some (.cells cur (gT.ty α) (0,0))∧o+c * gT.sz α≤cur.size∧l.length≤c∧c≤maxLen∧F=g::(G0++G2) ∧
      cur.toList.drop o=c0++(cs++c2)∧c0.length=k * gT.sz α∧cs.length=gT.sz α∧k<l.length∧o≤cur.size ∧
      ∀ (w':World) (d1:List Value) (G1:List Nat) (y:α),gT.own w' d1 G1 y→(∀ b,b ∈ G0++G2→w'.heap[b]?=w.heap[b]?)→jm w' (c0++(d1++c2)) (G0++(G1++G2)) (l.set k y),
   by
    rintro w w' F ⟨g,o,cur,G0,G2,c0,c2,ha,hg,h1,h2,h3,rfl,h4,h5,h6,h7,h8,h9⟩ hb
    exact ⟨g,o,cur,G0,G2,c0,c2,ha,(hb g (by simp)).trans hg,h1,h2,h3,rfl,h4,h5,h6,h7,h8,
      fun w'' d1 G1 y hy hh=>h9 w'' d1 G1 y hy fun b hm=>(hh b hm).trans (hb b (List.mem_cons_of_mem _ hm))⟩⟩
theorem BX {c1 cs:List Value} {f:Nat→Option Value} (hl:c1.length=cs.length) (h1:∀ j u,c1[j]?=some u→f j=some u) (h2:∀ j u,cs[j]?=some u→f j=some u):c1=cs:=by
  apply List.ext_getElem?;intro j
  by_cases hj:j<c1.length
  · have a1:=h1 j _ (List.getElem?_eq_getElem hj);have a2:=h2 j _ (List.getElem?_eq_getElem (hl ▸ hj));rw [List.getElem?_eq_getElem hj,List.getElem?_eq_getElem (hl ▸ hj)];exact a1.symm.trans a2
  · rw [List.getElem?_eq_none (by omega),List.getElem?_eq_none (by omega)]
theorem St.CK {w0 w:World} {F0:List Nat} {L M:List Item} {i:Nat} {y:Item} (h:St w0 F0 w ((M++[y])++L.eraseIdx i)) (hi:i<L.length):St w0 F0 w (M++L.set i y) :=
  h.perm (by rw [List.append_assoc];exact (eraseIdx_set L i y hi).append_left M)
theorem St.focus {c b o:Nat} {l:List α} {k:Int} {x:α} {cs:List Value} (h:St w0 F0 w L) (i:Nat) (hi:L[i]?=some (sl (some ⟨b,o,none⟩) c l)) (hx:idx l k=some x) (hl:cs.length=gT.sz α)
    (hcs:∀ (j:Nat) (u:Value),cs[j]?=some u→w.cell? ⟨b,o+k.toNat * gT.sz α+j,none⟩=some u) :
    ∃ Fx,gT.own w cs Fx x∧∀ M,iv M w Fx→St w0 F0 w (M++L.set i (hole α (some ⟨b,o,none⟩) c l k.toNat cs)):=by
  obtain ⟨Fi,ho,hS⟩:=h.freeze i hi;unfold Kx.idx at hx;split at hx
  case isFalse=>cases hx
  case isTrue h0 =>
  have hlt:=iQ hx
  rcases ho with ⟨_,_,rfl,_⟩ | ⟨g,o',cur,F',ha,hg,hs,h1,h2,hF,he⟩
  · simp at hlt
  · cases ha;obtain ⟨c0,c1,c2,G0,G1,G2,hc,rfl,hl0,q1,q2⟩:=he.set k.toNat hx;have hl1:=gT.iJ q1
    have e:c1=cs:=by
      refine BX (f:=fun j=>w.cell? ⟨b,o+k.toNat * gT.sz α+j,none⟩) (hl1.trans hl.symm) (fun j u hu=>?_) hcs;have hj:j<c1.length:=iQ hu
      show w.cell? _=_
      rw [cell_of_row w b _ cur _ (0,0) hg,Nat.add_assoc]
      have:(cur.toList.drop o)[k.toNat * gT.sz α+j]?=some u:=by
        rw [hc,List.getElem?_append_right (by omega),hl0,Nat.add_sub_cancel_left,List.getElem?_append_left hj];exact hu
      rw [List.getElem?_drop] at this;simpa using this
    subst e
    have hoc:o≤cur.size:=by omega
    refine ⟨G1,q1,fun M hM=>St.CK (St.head (x:=fz w Fi) (M:=M++[_]) (hS.front i (by rw [List.getElem?_set_self (iQ hi)])) fun G hG hn hlt2=>?_ ) (by simpa using iQ hi) |> fun q=>by simpa using q⟩;obtain ⟨rfl,_⟩:=hG;subst hF;obtain ⟨hgn,hnd⟩:=List.nodup_cons.1 hn;obtain ⟨n0,n12,d0⟩:=List.nodup_append.1 hnd;obtain ⟨n1,n2,d12⟩:=List.nodup_append.1 n12;refine ⟨rfl,rfl,rfl,Nat.le_refl _,fun _ _ _=>rfl,G1++(b::(G0++G2)),iv.append.2 ⟨G1,_,rfl,hM,_,[],by simp,⟨b,o,cur,G0,G2,c0,c2,rfl,hg,hs,h1,h2,rfl,hc,hl0,hl,hlt,hoc,q2⟩,rfl⟩,?_,?_⟩
    · refine List.nodup_append.2 ⟨n1,List.nodup_cons.2 ⟨fun hm=>hgn ?_,List.nodup_append.2 ⟨n0,n2,fun a ha d hd e=>d0 a ha d (List.mem_append_right _ hd) e⟩⟩,fun a ha d hd e=>?_⟩
      · rcases List.mem_append.1 hm with q | q<;>simp [q]
      · subst e
        rcases List.mem_cons.1 hd with rfl | hd
        · exact hgn (by simp [ha])
        · rcases List.mem_append.1 hd with q | q
          · exact d0 a q a (List.mem_append_left _ ha) rfl
          · exact d12 a ha a q rfl
    · intro d hd
      have:d ∈ b::(G0++(G1++G2)):=by
        simp only [List.mem_append,List.mem_cons] at hd ⊢
        rcases hd with q | q | q | q<;>simp [q]
      exact ⟨.inl this,hlt2 d this⟩
theorem St.uk {b o c k:Nat} {l:List α} {cs:List Value} (h:St w0 F0 w L) (i:Nat) (hi:L[i]?=some (hole α (some ⟨b,o,none⟩) c l k cs)) {j:Nat} {u:Value} (hu:cs[j]?=some u):w.cell? ⟨b,o+k * gT.sz α+j,none⟩=some u:=by
  obtain ⟨F,hF,_,_⟩:=h.own;obtain ⟨Fi,⟨g,o',cur,G0,G2,c0,c2,ha,hg,_,_,_,_,h4,h5,h6,_⟩,_⟩:=hF.at_ i hi;cases ha;have hj:=iQ hu;rw [cell_of_row w b _ cur _ (0,0) hg,Nat.add_assoc]
  have:(cur.toList.drop o)[k * gT.sz α+j]?=some u:=by
    rw [h4,List.getElem?_append_right (by omega),h5,Nat.add_sub_cancel_left,List.getElem?_append_left hj];exact hu
  rw [List.getElem?_drop] at this;simpa using this
theorem St.EA {a:Option Addr} {c k:Nat} {l:List α} {cs:List Value} {y:α} (h:St w0 F0 w (M++L)) (i:Nat) (hi:L[i]?=some (hole α a c l k cs)) (hM:∀ (w:World) (G:List Nat),iv M w G→gT.own w cs G y) :
    St w0 F0 w (L.set i (sl a c (l.set k y))):=by
  have h':St w0 F0 w ((M++[hole α a c l k cs])++L.eraseIdx i):=by
    refine h.perm ?_;rw [List.append_assoc];exact (qK L i _ hi).append_left M
  obtain ⟨F,hF,hn,hlt,_,_,hm⟩:=h'.share;refine (hm w [sl a c (l.set k y)] ?_).perm (eraseIdx_set L i _ (iQ hi));obtain ⟨F1,F2,rfl,q1,F3,F4,rfl,⟨g,o,cur,G0,G2,c0,c2,ha,hg,h1,h2,h3,rfl,h4,h5,h6,h7,h8,h9⟩,q4⟩:=iv.append.1 hF;cases (show F4=[] from q4);have hE:=h9 w cs F1 y (hM w F1 q1) (fun _ _=>rfl);rw [List.append_nil] at hn hlt ⊢;obtain ⟨n1,n2,nd⟩:=List.nodup_append.1 hn;obtain ⟨m1,m2⟩:=List.nodup_cons.1 n2;obtain ⟨k0,k2,kd⟩:=List.nodup_append.1 m2;refine ⟨rfl,rfl,rfl,Nat.le_refl _,fun _ _ _=>rfl,g::(G0++(F1++G2)),⟨g::(G0++(F1++G2)),[],(List.append_nil _).symm,.inr ⟨g,o,cur,_,ha,hg,h1,by simpa using h2,h3,rfl,?_⟩,rfl⟩,?_,?_⟩
  · rw [h4];exact hE
  · refine List.nodup_cons.2 ⟨fun hm=>?_,List.nodup_append.2 ⟨k0,List.nodup_append.2 ⟨n1,k2,fun p hp d hd e=>nd p hp d (by simp [hd]) e⟩,fun p hp d hd e=>?_⟩⟩
    · simp only [List.mem_append] at hm
      rcases hm with q | q | q
      · exact m1 (by simp [q])
      · exact nd g q g (by simp) rfl
      · exact m1 (by simp [q])
    · subst e
      rcases List.mem_append.1 hd with q | q
      · exact nd p q p (by simp [hp]) rfl
      · exact kd p hp p q rfl
  · intro d hd
    have:d ∈ F1++(g::(G0++G2)):=by
      simp only [List.mem_append,List.mem_cons] at hd ⊢
      rcases hd with q | q | q | q<;>simp [q]
    exact ⟨.inl this,hlt d this⟩
end
section
variable {P:Program} {w0 w w1:World} {F0 F:List Nat} {L M:List Item} {α:Type} [gT α]
variable {n:Nat} {Q:jV} {e:Env} {ops:Array Oper} {rest:List Oper} {ty:TypeId} {pos:String} {aft:Array Edge} {d:Nat} {v:Value}
theorem LW.uQ {t:TypeId} {x y:Operand} {av:Option Nat} {g o off j c k:Nat} {l:List α} {cs vs:List Value} (hS:St w0 F0 w L) (i:Nat) (hi:L[i]?=some (hole α (some ⟨g,o,none⟩) c l k cs)) (ht:iY P t=some av)
    (hx:ev e x=.pointer (some ⟨g,off,none⟩)) (hoff:off=o+k * gT.sz α+j) (hy:(ev e y).cells.toList=vs) (hm:vs.length=av.getD 1) (hl:Nat.ble (j+vs.length) cs.length=true) (h1:vs.all (·.oneCell')=true)
    (h:∀ w':World,St w0 F0 w' (L.set i (hole α (some ⟨g,o,none⟩) c l k (sv cs j vs)))→Fr w w' [g]→LW P n ops Q rest e w'):LW P n ops Q (⟨none,.store t x y,ty,pos,aft,none⟩::rest) e w:=by
  subst hoff;have hl:=Nat.le_of_ble_eq_true hl;obtain ⟨Fa,hFa,_,_⟩:=hS.own;obtain ⟨Fi,⟨g',o',cur,G0,G2,c0,c2,ha,hg,p1,p2,p3,rfl,p4,p5,p6,p7,p8,p9⟩,_⟩:=hFa.at_ i hi;cases ha
  have hlen:cur.size=o+(c0.length+(cs.length+c2.length)):=by
    have:=congrArg List.length p4;rw [List.length_drop,Array.length_toList] at this;simp only [List.length_append] at this;omega
  have hr:=run_storeCells_at P g (o+k * gT.sz α+j) (gT.ty α) vs 0 cur w hg (by omega) (fun u hu=>List.all_eq_true.1 h1 u hu);simp only [Nat.add_zero] at hr
  have hto:(cur.toList.take o).length=o:=by rw [List.length_take,Array.length_toList];omega
  have hcc:cur.toList=(cur.toList.take o++c0)++(cs++c2):=by rw [List.append_assoc, ← p4,List.take_append_drop]
  have hspl:cur.toList.take (o+k * gT.sz α+j)++vs++cur.toList.drop (o+k * gT.sz α+j+vs.length)=(cur.toList.take o++c0)++(sv cs j vs++c2):=by
    have hl0:(cur.toList.take o++c0).length=o+k * gT.sz α:=by rw [List.length_append,hto,p5]
    have:=Ai (cur.toList.take o++c0) cs c2 vs j hl;rw [← hcc,hl0, ← wc cs j vs hl] at this;exact this
  have hsl:(sv cs j vs).length=cs.length:=by rw [wc cs j vs hl];simp;omega
  refine LW.wU (w':=w.setRow g (cur.toList.take (o+k * gT.sz α+j)++vs++cur.toList.drop (o+k * gT.sz α+j+vs.length)).toArray) ?_ (h _ (hS.setAt hi fun G hG hn hlt=>?_) ⟨by simp,fun b _ hb=>setRow_other w g b _ (by simpa using hb)⟩)
  · have:=mQ (w:=w) ht
    have hy2:(ev e y).cells.size=av.getD 1:=by rw [← hm, ← hy,Array.length_toList]
    simp [execOp,Instr.storeAt,Instr.sureAddr,hx,storeVar,hy,hy2,this.2,hr]
  · obtain ⟨g',o',cur',G0',G2',c0',c2',ha,hg',q1,q2,q3,rfl,q4,q5,q6,q7,q8,q9⟩:=hG;cases ha;rw [hg] at hg';cases hg';have hoth:∀ b,b ≠ g→(w.setRow g (cur.toList.take (o+k * gT.sz α+j)++vs++cur.toList.drop (o+k * gT.sz α+j+vs.length)).toArray).heap[b]?=w.heap[b]?:=fun b hb=>setRow_other w g b _ hb;obtain ⟨m1,m2⟩:=List.nodup_cons.1 hn
    have e1:c0=c0'∧c2=c2':=by
      rw [p4] at q4;have r1:=List.append_inj q4 (by omega);exact ⟨r1.1,(List.append_inj r1.2 rfl).2⟩
    obtain ⟨rfl,rfl⟩:=e1;refine ⟨rfl,rfl,rfl,by simp,fun b _ hno=>hoth b fun e=>hno (by simp [e]),g::(G0'++G2'),⟨_,[],by simp,⟨g,o,_,G0',G2',c0,c2,rfl,setRow_heap w g cur _ _ _ hg,?_,q2,q3,rfl,?_,p5,by omega,p7,?_,?_⟩,rfl⟩,hn,fun b hb=>⟨.inl hb,by simpa using hlt b hb⟩⟩
    · rw [hspl];simp [hto,hsl];omega
    · simp only [List.toList_toArray];rw [hspl,List.append_assoc];exact List.drop_left' hto
    · rw [hspl];simp [hto]
    · intro w'' d1 G1 y' hy' hb;exact q9 w'' d1 G1 y' hy' fun b hm=>(hb b hm).trans (hoth b fun e=>m1 (e ▸ hm))
def sub {α:Type} (l:List α) (i j:Int):Option (List α):=if 0≤i∧i≤j∧j≤(l.length:Int) then some ((l.drop i.toNat).take (j.toNat - i.toNat)) else none
theorem wN {α:Type} {l m:List α} {i j:Int} (h:sub l i j=some m):0≤i∧i≤j∧j≤(l.length:Int)∧m=(l.drop i.toNat).take (j.toNat - i.toNat)∧m.length=j.toNat - i.toNat:=by
  unfold sub at h;split at h
  · rename_i hc;cases h;obtain ⟨h1,h2,h3⟩:=hc;exact ⟨h1,h2,h3,rfl,by rw [List.length_take,List.length_drop];omega⟩
  · cases h
def DH (ρ:Operand→Value) (x:Option Operand) (d i:Int):Prop :=
  match x with
  | none=>i=d
  | some x=>∃ k,ρ x=.int k i
theorem wz {ρ:Operand→Value} {d:Int}:DH ρ none d d:=rfl
theorem wC {ρ:Operand→Value} {x:Operand} {k:IntKind} {d i:Int} (h:ρ x=.int k i):DH ρ (some x) d i:=⟨k,h⟩
def rv (a:Option Addr) (c i m:Nat):Option Addr:=if c=i then a else a.map fun b=>b.add (i * m)
theorem iI.sub {ρ:Operand→Value} {t:TypeId} {x:Operand} {lo hi:Option Operand} {a:Option Addr} {c:Nat} {l m:List α} {i j:Int} (hT:P.underlying t=some (.slice (gT.ty α))) (hz:oG P (gT.ty α)=some (gT.sz α)) (hx:ρ x=.slice a l.length c)
    (hlo:DH ρ lo 0 i) (hhi:DH ρ hi (l.length:Int) j) (hs:Kx.sub l i j=some m) (hlc:l.length≤c) {a':Option Addr} {c':Nat} (e1:a'=rv a c i.toNat (gT.sz α)) (e2:c'=c - i.toNat):iI P ρ (.slice t x lo hi none) (.slice a' m.length c'):=by
  subst e1;subst e2;obtain ⟨h1,h2,h3,rfl,hm⟩:=wN hs;intro d ty pos aft gd w;rw [hm]
  cases hi':P.info? (gT.ty α) with
  | none=>simp [oG,hi'] at hz
  | some inf =>
    have hz':inf.size=gT.sz α:=by simpa [oG,hi'] using hz
    have h4:0≤j:=by omega
    have h5:j≤(c:Int):=by omega
    have h6:i≤(j.toNat:Int):=by omega
    have hb:(Instr.sliceBounds true l.length c (lo.map ρ) (hi.map ρ) none).run P w=.ok (i.toNat,j.toNat,c) w:=by
      cases lo with
      | none =>
        cases (show i=0 from hlo)
        cases hi with
        | none =>
          cases (show j=_ from hhi);simp [Instr.sliceBounds]
        | some y =>
          obtain ⟨k,hy⟩:=hhi;simp [Instr.sliceBounds,Instr.sliceBound,hy,asIntOf,h4,h5]
      | some x' =>
        obtain ⟨k',hx'⟩:=hlo
        cases hi with
        | none =>
          cases (show j=_ from hhi);simp [Instr.sliceBounds,Instr.sliceBound,hx',asIntOf,h1,h3];omega
        | some y =>
          obtain ⟨k,hy⟩:=hhi;simp [Instr.sliceBounds,Instr.sliceBound,hx',hy,asIntOf,h1,h4,h5];omega
    have hcu:(if c=i.toNat then a else a.map fun b=>b.add (i.toNat * inf.size))=rv a c i.toNat (gT.sz α):=by unfold rv;rw [hz']
    simp [execOp,Instr.sliceAt,Instr.slice,run_underlying hT,hx,hb,sizeOf,typeInfo,hi', ← hcu]
theorem iy.sub {S:Nat→Prop} {a:Option Addr} {c:Nat} {l m:List α} {i j:Int} (h:iy S w a c l) (hs:Kx.sub l i j=some m):iy S w (rv a c i.toNat (gT.sz α)) (c - i.toNat) m:=by
  obtain ⟨h1,h2,h3,rfl,hm⟩:=wN hs;have hle:=h.le;refine ⟨by rw [hm];omega,Nat.le_trans (Nat.sub_le _ _) h.cap,fun hne=>?_⟩;have hlen:0<((l.drop i.toNat).take (j.toNat - i.toNat)).length:=List.length_pos_iff.2 hne;obtain ⟨b,o,rfl,hb,hc⟩:=h.cells (by rintro rfl;simp at hlen)
  have hci:¬ c=i.toNat:=by omega
  refine ⟨b,o+i.toNat * gT.sz α,by unfold rv;rw [if_neg hci];simp [add_lit],hb,fun k x hx=>?_⟩;rw [List.getElem?_take] at hx;split at hx
  · rw [List.getElem?_drop] at hx;obtain ⟨cs,q1,q2⟩:=hc _ x hx;refine ⟨cs,q1,fun p u hu=>?_⟩;have:=q2 p u hu;rw [Nat.add_mul, ← Nat.add_assoc] at this;exact this
  · cases hx
theorem iy.vb {S:Nat→Prop} {a:Option Addr} {c:Nat} {l m:List α} {i j:Int} (h:iy S w a c l) (hs:Kx.sub l i j=some m):∃ (a':Option Addr) (c':Nat),a'=rv a c i.toNat (gT.sz α)∧c'=c - i.toNat∧iy S w a' c' m :=
  ⟨_,_,rfl,rfl,h.sub hs⟩
theorem jm.drop:∀ (k:Nat) {l:List α} {cs:List Value} {F:List Nat},jm w cs F l→∃ F1 F2,F=F1++F2∧jm w (cs.drop (k * gT.sz α)) F2 (l.drop k)
  | 0,_,_,F,h=>⟨[],F,rfl,by simpa using h⟩
  | k+1,[],cs,F,h=>⟨[],F,rfl,h⟩
  | k+1,x::l,cs,F,⟨c1,c2,F1,F2,hc,hF,h1,h2⟩=>by
    obtain ⟨G1,G2,rfl,q⟩:=jm.drop k h2;refine ⟨F1++G1,G2,by simp [hF],?_⟩
    have e:cs.drop ((k+1) * gT.sz α)=c2.drop (k * gT.sz α):=by
      rw [hc,Nat.succ_mul,Nat.add_comm, ← gT.iJ h1,List.drop_length_add_append]
    rw [e];exact q
theorem jm.DG:∀ (k:Nat) {l:List α} {cs:List Value} {F:List Nat},jm w cs F l→∃ F1 F2,F=F1++F2∧jm w cs F1 (l.take k)
  | 0,l,_,F,h=>⟨[],F,rfl,by simp [jm]⟩
  | k+1,[],cs,F,h=>⟨F,[],by simp,by simpa using h⟩
  | k+1,x::l,cs,F,⟨c1,c2,F1,F2,hc,hF,h1,h2⟩=>by
    obtain ⟨G1,G2,rfl,q⟩:=jm.DG k h2;exact ⟨F1++G1,G2,by simp [hF],by rw [List.take_succ_cons];exact ⟨c1,c2,F1,G1,hc,rfl,h1,q⟩⟩
theorem St.sub {a:Option Addr} {c:Nat} {l m:List α} {i j:Int} (h:St w0 F0 w L) (k:Nat) (hi:L[k]?=some (sl a c l)) (hs:Kx.sub l i j=some m):l.length≤c∧St w0 F0 w (L.set k (sl (rv a c i.toNat (gT.sz α)) (c - i.toNat) m)):=by
  refine ⟨?_,h.setAt hi fun F hF hn hlt=>?_⟩
  · obtain ⟨F,hF,_,_⟩:=h.own;obtain ⟨Fi,q,_⟩:=hF.at_ k hi
    rcases q with ⟨_,_,rfl,_⟩ | ⟨_,_,_,_,_,_,_,h1,_⟩
    · simp
    · exact h1
  · obtain ⟨h1,h2,h3,rfl,hm⟩:=wN hs
    rcases hF with ⟨rfl,rfl,rfl,rfl⟩ | ⟨g,o,cur,F',rfl,hg,hz,q1,q2,rfl,he⟩
    · refine St.init (F:=[]) ⟨[],[],rfl,.inl ⟨by simp [rv],by simp,by simp,rfl⟩,rfl⟩ List.nodup_nil (by simp)
    · obtain ⟨G1,G2,hG,e1⟩:=jm.drop i.toNat he;obtain ⟨G3,G4,hG',e2⟩:=jm.DG (j.toNat - i.toNat) e1;subst hG;subst hG'
      have hnn:(g::G3).Nodup:=by
        refine hn.sublist ?_;simp only [List.cons_sublist_cons];exact (List.sublist_append_left G3 G4).trans (List.sublist_append_right _ _)
      refine ⟨rfl,rfl,rfl,Nat.le_refl _,fun _ _ _=>rfl,g::G3,⟨g::G3,[],(List.append_nil _).symm,.inr ?_,rfl⟩,hnn,fun b hb=>?_⟩
      · by_cases hc:c=i.toNat
        · have hl0:(l.drop i.toNat).take (j.toNat - i.toNat)=[]:=by rw [List.drop_eq_nil_of_le (by omega)];simp
          rw [hl0] at e2 ⊢;refine ⟨g,o,cur,G3,by simp [rv,hc],hg,?_,by simp,by omega,rfl,e2⟩;rw [hc];simp;omega
        · refine ⟨g,o+i.toNat * gT.sz α,cur,G3,by simp [rv,hc,add_lit],hg,?_,by rw [hm];omega,by omega,rfl,?_⟩
          · have:i.toNat+(c - i.toNat)=c:=by omega
            rw [Nat.add_assoc, ← Nat.add_mul,this];exact hz
          · rw [← List.drop_drop];exact e2
      · have:b ∈ g::(G1++(G3++G4)):=by
          rcases List.mem_cons.1 hb with rfl | hb
          · simp
          · simp [hb]
        exact ⟨.inl this,hlt b this⟩
theorem St.vb {a:Option Addr} {c:Nat} {l m:List α} {i j:Int} (h:St w0 F0 w L) (k:Nat) (hi:L[k]?=some (sl a c l)) (hs:Kx.sub l i j=some m) :
    l.length≤c∧∃ (a':Option Addr) (c':Nat),a'=rv a c i.toNat (gT.sz α)∧c'=c - i.toNat∧St w0 F0 w (L.set k (sl a' c' m)):=by
  obtain ⟨h1,h2⟩:=St.sub h k hi hs;exact ⟨h1,_,_,rfl,rfl,h2⟩
end
def kU {α β:Type} (l m:List α) (k:Option β):Option β:=if l.length=m.length then k else none
theorem iD {α β:Type} {l m:List α} {k:Option β} {y:β} (h:kU l m k=some y):l.length=m.length∧k=some y:=by
  unfold kU at h;split at h
  · rename_i hc;exact ⟨hc,h⟩
  · cases h
theorem hP.b1 {P:Program} {e:Env} {w w0:World} {F0:List Nat} {L:List Item} {a T:Nat} {g:Nat} {bt:TypeId} {cs:List Value} {v:Value} (hS:St w0 F0 w L) (i:Nat) (hi:L[i]?=some (bx g bt cs)) (ht:iY P T=some none) (ha:e a=.pointer (some ⟨g,0,none⟩)) (hv:sa cs 0=some v):hP P e w (.cell a T) v:=by
  have hl:=jb.box (P:=P) (ρ:=ev e) (x:=.tmp a) (o:=0) (cs:=cs) (bt:=bt) (fr:=(0,0)) ht ha hv;refine ⟨_,ha,?_⟩;have h1:=hl none 0 "" #[] none w (St.cell (h:=hS) hi);have ha':ev e (.tmp a)=.pointer (some ⟨g,0,none⟩):=ha;simp only [execOp,Instr.loadAt,ha',Instr.sureAddr] at h1
  cases hr:(loadVar T ⟨g,0,none⟩).run P w with
  | ok v w'=>simp [hr] at h1;obtain ⟨h2,h3⟩:=h1;subst h2;subst h3;rfl
  | halt x w'=>simp [hr] at h1
end Go.Kx
namespace Go.Kx
open Go Go.RowKit
set_option linter.unusedVariables false
set_option linter.unusedSimpArgs false
section
variable {P:Program} {w0 w w1:World} {F0 F:List Nat} {L:List Item} {α β γ:Type} [gT α] [gT β] [gT γ]
def al (x:Item) (b:Option Addr) (k:Nat) (m:List β):Item :=
  ⟨fun w F=>∃ F1 F2,F=F1++F2∧x.p w F1∧iy (fun q=>q ∈ F) w b k m,fun w w' F h hb=>by
    obtain ⟨F1,F2,rfl,h1,h2⟩:=h
    exact ⟨F1,F2,rfl,x.frame w w' F1 h1 fun q hq=>hb q (List.mem_append_left _ hq),h2.kT hb⟩⟩
theorem St.Fc {a:Option Addr} {c:Nat} {l:List α} (h:St w0 F0 w L) (i:Nat) (hi:L[i]?=some (sl a c l)):St w0 F0 w (L.set i (al (sl a c l) a c l)) :=
  h.setAt hi fun G hG hn hlt=>St.init ⟨G,[],by simp,⟨G,[],by simp,hG,kW.rd hG fun q hq=>hq⟩,rfl⟩ hn hlt
theorem St.DX {x:Item} {b:Option Addr} {k:Nat} {m:List β} (h:St w0 F0 w (x::sl b k m::L)):St w0 F0 w (al x b k m::L):=by
  have h':St w0 F0 w ([x,sl b k m]++L):=h;obtain ⟨F,hF,hn,hlt,_,_,hm⟩:=h'.share;obtain ⟨F1,F2,rfl,q1,F3,F4,rfl,q2,q3⟩:=hF;cases q3;exact hm w [al x b k m] (St.init ⟨F1++F3,[],by simp,⟨F1,F3,rfl,q1,kW.rd q2 fun q hq=>List.mem_append_right _ hq⟩,rfl⟩ (by simpa using hn) (by simpa using hlt))
theorem St.yA {x:Item} {b:Option Addr} {k:Nat} {m:List β} (h:St w0 F0 w L) (i:Nat) (hi:L[i]?=some (al x b k m)):St w0 F0 w (L.set i x) :=
  h.setAt hi fun G hG hn hlt=>by
    obtain ⟨F1,F2,rfl,q,_⟩:=hG;refine ⟨rfl,rfl,rfl,Nat.le_refl _,fun _ _ _=>rfl,F1,⟨F1,[],by simp,q,rfl⟩,(List.nodup_append.1 hn).1,fun b hb=>⟨.inl (List.mem_append_left _ hb),hlt b (List.mem_append_left _ hb)⟩⟩
theorem St.Ea {x:Item} {b:Option Addr} {k:Nat} {m:List β} (h:St w0 F0 w L) (i:Nat) (hi:L[i]?=some (al x b k m)) :
    ∃ F,(al x b k m).p w F∧iy (fun q=>q ∈ F) w b k m∧St w0 F0 w (L.set i (fz w F)):=by
  have h':St w0 F0 w ([al x b k m]++L.eraseIdx i):=h.front i hi;obtain ⟨F,hF,hn,hlt,_,_,hm⟩:=h'.share;obtain ⟨F1,F2,rfl,q1,q2⟩:=hF;cases (show F2=[] from q2);rw [List.append_nil] at hn hlt hm
  have hr:iy (fun q=>q ∈ F1) w b k m:=by
    obtain ⟨G1,G2,_,_,q⟩:=q1;exact q
  exact ⟨F1,q1,hr,(hm w [fz w F1] (St.init ⟨F1,[],by simp,⟨rfl,fun _ _=>rfl⟩,rfl⟩ hn hlt)).perm (eraseIdx_set L i _ (iQ hi))⟩
theorem St.F8 {x:Item} (h:St w0 F0 w L) (i:Nat) (hi:L[i]?=some (fz w1 F)) (hx:x.p w1 F):St w0 F0 w (L.set i x) :=
  h.setAt hi fun G hG hn hlt=>by
    obtain ⟨rfl,hb⟩:=hG;exact St.init ⟨G,[],by simp,x.frame w1 w G hx hb,rfl⟩ hn hlt
theorem D0 {w':World} {F:List Nat} {x:Item} {b:Option Addr} {k:Nat} {m:List β} {FA:List Nat} (hs:St w F w' [x]) (hA:iy (fun q=>q ∈ FA) w b k m) (hsub:∀ q,q ∈ FA→q ∈ F∧q<w.heap.size∧w'.heap[q]?=w.heap[q]?) (hn:FA.Nodup):St w F w' [al x b k m]:=by
  obtain ⟨F',hF',hn',hb'⟩:=hs.own;obtain ⟨F1,F2,rfl,q1,q2⟩:=hF';cases (show F2=[] from q2);rw [List.append_nil] at hn' hb';refine ⟨hs.os,hs.tape,hs.output,hs.size,hs.same,F1++FA.filter (fun q=>!F1.contains q),⟨F1++FA.filter (fun q=>!F1.contains q),[],by simp,⟨F1,_,rfl,q1,?_⟩,rfl⟩,?_,?_⟩
  · refine (hA.kT fun q hq=>(hsub q hq).2.2).mono fun q hq=>?_
    by_cases hm:q ∈ F1
    · exact List.mem_append_left _ hm
    · exact List.mem_append_right _ (List.mem_filter.2 ⟨hq,by simpa using hm⟩)
  · refine List.nodup_append.2 ⟨hn',hn.filter _,fun p hp q hq e=>?_⟩;subst e;have:=(List.mem_filter.1 hq).2;simp [hp] at this
  · intro q hq
    rcases List.mem_append.1 hq with hq | hq
    · exact hb' q hq
    · have:=hsub q (List.mem_filter.1 hq).1;exact ⟨.inl this.1,Nat.lt_of_lt_of_le this.2.1 hs.size⟩
end
theorem jb.cells {P:Program} {ρ:Operand→Value} {t:TypeId} {x:Operand} {b o m:Nat} {cs:List Value} (ht:iY P t=some (some m)) (hx:ρ x=.pointer (some ⟨b,o,none⟩)) (hl:cs.length=m) :
    jb P ρ (.load t x) (fun w=>∀ (j:Nat) (u:Value),cs[j]?=some u→w.cell? ⟨b,o+j,none⟩=some u) (.agg cs.toArray) :=
  fun d ty pos aft gd w hc=>jb.agg ht hx hl d ty pos aft gd w hc
section
variable {P:Program} {n:Nat} {ops:Array Oper} {Q:jV} {rest:List Oper} {e:Env} {w w0:World} {F0:List Nat} {L M:List Item} {d:Nat} {ty:TypeId} {pos:String} {aft:Array Edge} {α β γ:Type} [gT α] [gT β] [gT γ]
theorem LW.Ge {t:TypeId} {ty2:TypeId} {pos2:String} {aft2:Array Edge} {x s:Operand} {d1:Nat} {vs:Array Value} {i:Nat} {a aX b:Option Addr} {c cX k:Nat} {lX:List γ} {m:List β} {l l':List α} {y:α} (hT:lG P t α)
    (hp:(ev e x).cells=vs) (hb:tD P t 1 [(0,ev e x)]=some (gT.ty α,vs)) (hs:ev e s=.slice a l.length c) (hs1:ev (jR e d1 undef) s=ev e s) (hl:app l [y]=some l')
    (hS:St w0 F0 w (al (sl aX cX lX) b k m::(M++L))) (hi:L[i]?=some (sl a c l)) (hM:∀ (w:World) (G:List Nat),iv (sl aX cX lX::M) w G→gT.own w vs.toList G y) (hd1:Nat.ble (d1+1) n=true) (hd:Nat.ble (d+1) n=true)
    (h:∀ (v1:Value) (a':Option Addr) (c':Nat) (w':World),St w0 F0 w' (L.set i (al (sl a' c' l') b k m))→Fr w w' ((a.map (·.block)).toList)→LW P n ops Q rest (jR (jR e d1 v1) d (.slice a' l'.length c')) w') :
    LW P n ops Q (⟨some d1,.buildSlice t 1 #[(0,x)],ty2,pos2,aft2,none⟩::⟨some d,.call { callee:=.builtin .append,args:=#[s,.tmp d1],argTypes:=#[t,t] },ty,pos,aft,none⟩::rest) e w:=by
  have h':St w0 F0 w ((al (sl aX cX lX) b k m::(M++[sl a c l]))++L.eraseIdx i):=by
    refine hS.perm ?_;have:=qK L i (sl a c l) hi;simp only [List.cons_append,List.append_assoc,List.nil_append];exact (this.append_left M).cons _
  obtain ⟨F,hF,hn,hlt,_,_,hm⟩:=h'.share;obtain ⟨FA,FR,rfl,hA,hR⟩:=hF;obtain ⟨F1,F2,rfl,hX,hr⟩:=hA;obtain ⟨FM,FL,rfl,hMh,hL⟩:=iv.append.1 hR;obtain ⟨Fl,Fe,rfl,hl1,hl2⟩:=hL;cases (show Fe=[] from hl2);obtain ⟨n1,n2,nd⟩:=List.nodup_append.1 hn
  have hT0:St w ((F1++F2)++(FM++(Fl++[]))) w ((sl aX cX lX::M)++[sl a c l]):=by
    refine ⟨rfl,rfl,rfl,Nat.le_refl _,fun _ _ _=>rfl,F1++(FM++(Fl++[])),?_,?_,?_⟩
    · exact ⟨F1,_,rfl,hX,hR⟩
    · refine List.nodup_append.2 ⟨(List.nodup_append.1 n1).1,n2,fun p hp q hq=>nd p (List.mem_append_left _ hp) q hq⟩
    · intro q hq
      have:q ∈ (F1++F2)++(FM++(Fl++[])):=by
        rcases List.mem_append.1 hq with hq | hq
        · exact List.mem_append_left _ (List.mem_append_left _ hq)
        · exact List.mem_append_right _ hq
      exact ⟨.inl this,hlt q this⟩
  refine LW.kr (M:=sl aX cX lX::M) (L:=[sl a c l]) (i:=0) hT hp hb hs hs1 hl hT0 rfl hM hd1 hd fun v1 a' c' w' hS' hf=>h v1 a' c' w' ?_ hf;have hS':St w ((F1++F2)++(FM++(Fl++[]))) w' [sl a' c' l']:=hS'
  have hblk:∀ q,q ∈ ((a.map (·.block)).toList)→q ∈ Fl:=by
    intro q hq
    rcases hl1 with ⟨rfl,_⟩ | ⟨g,o,cur,F',rfl,_,_,_,_,rfl,_⟩
    · simp at hq
    · simp at hq;subst hq;simp
  have hover:=D0 hS' hr (fun q hq=>⟨List.mem_append_left _ hq,hlt q (List.mem_append_left _ hq),hf.same q (hlt q (List.mem_append_left _ hq)) fun hb=>nd q hq q (List.mem_append_right _ (List.mem_append_left _ (hblk q hb))) rfl⟩) n1;exact (hm w' _ hover).perm (eraseIdx_set L i _ (iQ hi))
end
end Go.Kx
