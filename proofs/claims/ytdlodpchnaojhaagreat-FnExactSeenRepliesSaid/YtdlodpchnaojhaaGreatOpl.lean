import Derived.Test.YtdlodpchnaojhaaGreatOpm
namespace Go.Kx
open Go Go.RowKit
set_option linter.unusedVariables false
set_option linter.unusedSimpArgs false
def gS:Nat:=16777216
def idx {α:Type} (l:List α) (i:Int):Option α:=if 0≤i then l[i.toNat]? else none
def app {α:Type} (l m:List α):Option (List α):=if l.length+m.length<gS then some (l++m) else none
def mk (α:Type) [hD α] (n:Int):Option (List α):=if 0≤n∧n.toNat<gS then some (List.replicate n.toNat hD.zero) else none
def M1 (P:Program) (t:TypeId):Option (TypeId×Nat×Nat×List Value) :=
  match P.underlying t with
  | some (.slice e) =>
    match P.info? e with
    | some i=>match i.zero with
      | some z=>some (e,i.size,i.bytes,z.cells.toList)
      | none=>none
    | none=>none
  | _=>none
structure lS (P:Program) (t:TypeId) (α:Type) [hD α]:Prop where
  z4:P.underlying t=some (.slice (hD.ty α))
  info:∃ i z,P.info? (hD.ty α)=some i∧i.zero=some z∧i.size=hD.sz α∧i.bytes≤4096∧z.cells.toList=hD.zc α
theorem lS.of {P:Program} {t:TypeId} {α:Type} [hD α] {b:Nat} (h:M1 P t=some (hD.ty α,hD.sz α,b,hD.zc α)) (hb:Nat.ble b 4096=true):lS P t α:=by
  unfold M1 at h;split at h
  · rename_i el hu;split at h
    · rename_i i hi;split at h
      · rename_i z hz;simp only [Option.some.injEq,Prod.mk.injEq] at h;obtain ⟨h1,h2,h3,h4⟩:=h;subst h1;subst h3;exact ⟨hu,i,z,hi,hz,h2,Nat.le_of_ble_eq_true hb,h4⟩
      · cases h
    · cases h
  · cases h
section
variable {P:Program} {w0 w:World} {F0:List Nat} {L M:List Item} {α:Type} [hD α]
theorem iM.idx {S:Nat→Prop} {a:Option Addr} {c:Nat} {l:List α} (h:iM S w a c l) {i:Int} {x:α} (hx:idx l i=some x) :
    ∃ b o cs,a=some ⟨b,o,none⟩∧S b∧0≤i∧i<(l.length:Int)∧hD.rd S w cs x∧∀ (j:Nat) (u:Value),cs[j]?=some u→w.cell? ⟨b,o+i.toNat * hD.sz α+j,none⟩=some u:=by
  unfold Kx.idx at hx;split at hx
  · rename_i h0;have hlt:=ja hx
    have hne:l ≠ []:=by rintro rfl;simp at hlt
    obtain ⟨b,o,ha,hb,hc⟩:=h.cells hne;obtain ⟨cs,h1,h2⟩:=hc _ _ hx;exact ⟨b,o,cs,ha,hb,h0,by omega,h1,h2⟩
  · cases hx
theorem St.MW {a:Option Addr} {c:Nat} {l:List α} (h:St w0 F0 w L) (hr:iM (jo w0 F0) w0 a c l):iM (jo w0 F0) w a c l :=
  hr.mf fun b hb=>h.same b hb.1 hb.2
theorem mc.hZ {a:Option Addr} {c:Nat} {F:List Nat} {l:List α} {k:Int} {x:α} (q:mc w a c F l) (hx:idx l k=some x):∃ g o,a=some ⟨g,o,none⟩∧0≤k∧k<(l.length:Int):=by
  unfold Kx.idx at hx;split at hx
  · rename_i h0;have hlt:=ja hx
    rcases q with ⟨_,_,rfl,_⟩ | ⟨g,o,cur,F',ha,_⟩
    · simp at hlt
    · exact ⟨g,o,ha,h0,by omega⟩
  · cases hx
theorem St.hZ {i:Nat} {a:Option Addr} {c:Nat} {l:List α} {k:Int} {x:α} (h:St w0 F0 w L) (hi:L[i]?=some (sl a c l)) (hx:idx l k=some x) :
    ∃ g o,a=some ⟨g,o,none⟩∧0≤k∧k<(l.length:Int):=by
  obtain ⟨F,hF,_,_⟩:=h.own;obtain ⟨Fi,q,_⟩:=hF.at_ i hi;exact mc.hZ q hx
theorem Fs (c0 c1 c2 vs:List Value) (o:Nat) (h:o+vs.length≤c1.length) :
    (c0++(c1++c2)).take (c0.length+o)++vs++(c0++(c1++c2)).drop (c0.length+o+vs.length)=c0++((c1.take o++vs++c1.drop (o+vs.length))++c2):=by
  rw [List.take_length_add_append,List.take_append_of_le_length (by omega),Nat.add_assoc,List.drop_length_add_append,List.drop_append_of_le_length (by omega)];simp
theorem Kz {a:Option Addr} {c:Nat} {F:List Nat} {l:List α} {k:Nat} {x:α} (h:mc w a c F l) (hn:F.Nodup) (hk:l[k]?=some x) :
    ∃ g o cur c0 c1 c2 Fk,a=some ⟨g,o,none⟩∧w.heap[g]?=some (.cells cur (hD.ty α) (0,0))∧cur.toList=c0++(c1++c2)∧c0.length=o+k * hD.sz α∧hD.own w c1 Fk x∧g ∈ F∧g ∉ Fk∧(∀ b,b ∈ Fk→b ∈ F)∧Fk.Nodup ∧
      ∀ (w':World) (cur':Array Value) (d1:List Value) (G:List Nat) (y:α),hD.own w' d1 G y→w'.heap[g]?=some (.cells cur' (hD.ty α) (0,0))→cur'.toList=c0++(d1++c2) →
        (∀ b,b ∈ F→b ∉ Fk→b ≠ g→w'.heap[b]?=w.heap[b]?)→(∀ b,b ∈ G→b ∉ F∨b ∈ Fk)→G.Nodup →
        ∃ F',mc w' a c F' (l.set k y)∧F'.Nodup∧(∀ b,b ∈ F'→b ∈ F∨b ∈ G):=by
  have hlt:=ja hk
  rcases h with ⟨_,_,rfl,_⟩ | ⟨g,o,cur,F',ha,hg,hs,h1,h2,rfl,he⟩
  · simp at hlt
  · obtain ⟨c0,c1,c2,G0,G1,G2,hc,hF,hl,q1,q2⟩:=he.set k hk;have hl1:=hD.iU q1
    have ho:o≤cur.size:=by omega
    have hto:(cur.toList.take o).length=o:=by rw [List.length_take,Array.length_toList];omega
    have hcc:cur.toList=(cur.toList.take o++c0)++(c1++c2):=by rw [List.append_assoc, ← hc,List.take_append_drop]
    have hsz:cur.size=o+(c0.length+(c1.length+c2.length)):=by rw [← Array.length_toList,hcc];simp [hto, -Array.length_toList]<;>omega
    subst hF;obtain ⟨hgn,hnd⟩:=List.nodup_cons.1 hn;obtain ⟨n0,n12,d0⟩:=List.nodup_append.1 hnd;obtain ⟨n1,n2,d12⟩:=List.nodup_append.1 n12;refine ⟨g,o,cur,_,c1,c2,G1,ha,hg,hcc,by rw [List.length_append,hto,hl],q1,by simp,fun h=>hgn (by simp [h]),fun b hb=>by simp [hb],n1,?_⟩;intro w' cur' d1 G y hy hg' hsp hb hG hGn;have hld:=hD.iU hy
    have hfr:∀ b,b ∈ G0++G2→w'.heap[b]?=w.heap[b]?:=by
      intro b hbb
      have hm:b ∈ G0++(G1++G2):=by
        rcases List.mem_append.1 hbb with h | h<;>simp [h]
      refine hb b (List.mem_cons_of_mem _ hm) (fun h1=>?_) (fun h=>hgn (h ▸ hm))
      rcases List.mem_append.1 hbb with h | h
      · exact d0 b h b (List.mem_append_left _ h1) rfl
      · exact d12 b h1 b h rfl
    have hEls:=q2 w' d1 G y hy hfr
    have hGout:∀ b,b ∈ G→b ≠ g∧b ∉ G0∧b ∉ G2:=by
      intro b hbG;have key:b ∈ G1∨b ∉ (g::(G0++(G1++G2))):=(hG b hbG).symm
      rcases key with h | h
      · refine ⟨fun e=>hgn (by simp [← e,h]),fun h0=>d0 b h0 b (List.mem_append_left _ h) rfl,fun h2=>d12 b h b h2 rfl⟩
      · simp at h;exact ⟨h.1,h.2.1,h.2.2.2⟩
    have hdr:cur'.toList.drop o=c0++(d1++c2):=by
      rw [hsp,List.append_assoc];exact List.drop_left' hto
    refine ⟨g::(G0++(G++G2)),.inr ⟨g,o,_,_,ha,hg',?_,by simpa using h1,h2,rfl,?_⟩,?_,?_⟩
    · have:cur'.size=cur.size:=by
        rw [← Array.length_toList,hsp,hsz];simp [hld,hl1,hto]<;>omega
      rw [this];exact hs
    · rw [hdr];exact hEls
    · refine List.nodup_cons.2 ⟨?_,List.nodup_append.2 ⟨n0,List.nodup_append.2 ⟨hGn,n2,fun a ha b hb e=>(hGout a ha).2.2 (e ▸ hb)⟩,?_⟩⟩
      · intro hm
        rcases List.mem_append.1 hm with h | h
        · exact hgn (by simp [h])
        · rcases List.mem_append.1 h with h | h
          · exact (hGout g h).1 rfl
          · exact hgn (by simp [h])
      · intro a ha b hb e;subst e
        rcases List.mem_append.1 hb with h | h
        · exact (hGout a h).2.1 ha
        · exact d0 a ha a (List.mem_append_right _ h) rfl
    · intro b hb;simp at hb ⊢
      rcases hb with h | h | h | h<;>simp [h]
theorem St.It {i:Nat} {a:Option Addr} {c:Nat} {l:List α} {k:Int} {x y:α} {o:Nat} {vs:List Value} (h:St w0 F0 w (M++L)) (hi:L[i]?=some (sl a c l)) (hx:Kx.idx l k=some x)
    (hold:o+vs.length≤hD.sz α) (hM:∀ (w:World) (cs:List Value) (F G:List Nat),hD.own w cs F x→iP M w G→∃ F',hD.own w (cs.take o++vs++cs.drop (o+vs.length)) F' y∧(∀ b,b ∈ F'→b ∈ F∨b ∈ G)∧(F.Nodup→G.Nodup→(∀ b,b ∈ F→b ∉ G)→F'.Nodup)) :
    ∃ g o0 cur,a=some ⟨g,o0,none⟩∧0≤k∧k<(l.length:Int)∧w.heap[g]?=some (.cells cur (hD.ty α) (0,0))∧o0+k.toNat * hD.sz α+o+vs.length≤cur.size ∧
      St w0 F0 (w.setRow g (vB cur (o0+k.toNat * hD.sz α+o) vs)) (L.set i (sl a c (l.set k.toNat y))):=by
  unfold Kx.idx at hx;split at hx
  case isFalse=>cases hx
  case isTrue h0 =>
  have hlt:=ja hx
  have h':St w0 F0 w ((sl a c l::M)++L.eraseIdx i):=by
    have:=h.front (M.length+i) (x:=sl a c l) (by rw [List.getElem?_append_right (by omega),Nat.add_sub_cancel_left];exact hi);refine this.perm ?_
    have e:(M++L).eraseIdx (M.length+i)=M++L.eraseIdx i:=by
      rw [List.eraseIdx_append_of_length_le (by omega)];simp
    rw [e];simp
  obtain ⟨F,hF,hn,hlt2,_,_,hm⟩:=h'.share;obtain ⟨F1,F2,rfl,q1,q2⟩:=hF;obtain ⟨n1,n2,nd⟩:=List.nodup_append.1 hn;obtain ⟨g,o0,cur,c0,c1,c2,Fk,ha,hg,hc,hl0,r1,r2,hgk,r3,nk,r5⟩:=Kz q1 n1 hx;have hl1:=hD.iU r1
  have hsz:cur.size=c0.length+(c1.length+c2.length):=by rw [← Array.length_toList,hc];simp
  refine ⟨g,o0,cur,ha,h0,by omega,hg,by omega,?_⟩;generalize hw':w.setRow g (vB cur (o0+k.toNat * hD.sz α+o) vs)=w'
  have hgw:w'.heap[g]?=some (.cells (vB cur (o0+k.toNat * hD.sz α+o) vs) (hD.ty α) (0,0)):=by subst hw';exact setRow_heap w g cur _ _ _ hg
  have hoth:∀ b,b ≠ g→w'.heap[b]?=w.heap[b]?:=by subst hw';exact fun b hb=>setRow_other w g b _ hb
  have hsize:w'.heap.size=w.heap.size:=by subst hw';simp
  have hown1:hD.own w' c1 Fk x:=hD.jB r1 fun b hb=>hoth b fun e=>hgk (e ▸ hb);have hMw:iP M w' F2:=q2.frame fun b hb=>hoth b fun e=>nd g r2 b hb e.symm;obtain ⟨F',t1,t2,t3⟩:=hM w' c1 Fk F2 hown1 hMw
  have hcur:(vB cur (o0+k.toNat * hD.sz α+o) vs).toList=c0++((c1.take o++vs++c1.drop (o+vs.length))++c2):=by
    unfold vB;rw [hc, ← hl0];exact Fs c0 c1 c2 vs o (by omega)
  obtain ⟨F3,u1,u2,u3⟩:=r5 w' _ _ F' y t1 hgw hcur (fun b _ _ hne=>hoth b hne)
    (fun b hb=>(t2 b hb).elim (fun h=>.inr h) (fun h=>.inl fun h1=>nd b h1 b h rfl)) (t3 nk n2 (fun b hb hb2=>nd b (r3 b hb) b hb2 rfl))
  refine (hm w' [sl a c (l.set k.toNat y)] ?_).perm (eraseIdx_set L i _ (ja hi))
  have hF3:∀ b,b ∈ F3→b ∈ F1++F2:=fun b hb=>by
    rcases u3 b hb with h | h
    · exact List.mem_append_left _ h
    · rcases t2 b h with h | h
      · exact List.mem_append_left _ (r3 b h)
      · exact List.mem_append_right _ h
  refine ⟨by subst hw';rfl,by subst hw';rfl,by subst hw';rfl,by omega,fun b _ hno=>hoth b fun e=>hno (e ▸ List.mem_append_left _ r2),F3,⟨F3,[],by simp,u1,rfl⟩,u2,fun b hb=>⟨.inl (hF3 b hb),?_⟩⟩;rw [hsize];exact hlt2 b (hF3 b hb)
end
end Go.Kx
