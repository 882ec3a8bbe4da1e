import Derived.Test.YtdlodpchnaojhaaGreatEnv
namespace Go.Kx
open Go Go.RowKit
set_option linter.unusedVariables false
set_option linter.unusedSimpArgs false
structure Item where
  p:World→List Nat→Prop
  frame:∀ w w' F,p w F→(∀ b,b ∈ F→w'.heap[b]?=w.heap[b]?)→p w' F
def iP:List Item→World→List Nat→Prop
  | [],_,F=>F=[]
  | i::L,w,F=>∃ F1 F2,F=F1++F2∧i.p w F1∧iP L w F2
theorem iP.frame {L:List Item} {w w':World}:∀ {F:List Nat},iP L w F→(∀ b,b ∈ F→w'.heap[b]?=w.heap[b]?)→iP L w' F:=by
  induction L with
  | nil=>exact fun h _=>h
  | cons i L ih =>
    rintro F ⟨F1,F2,rfl,h1,h2⟩ hb;exact ⟨F1,F2,rfl,i.frame _ _ _ h1 (fun b h=>hb b (List.mem_append_left _ h)),ih h2 (fun b h=>hb b (List.mem_append_right _ h))⟩
theorem iP.append {L M:List Item} {w:World}:∀ {F:List Nat},iP (L++M) w F ↔ ∃ F1 F2,F=F1++F2∧iP L w F1∧iP M w F2:=by
  induction L with
  | nil=>exact fun {F}=>⟨fun h=>⟨[],F,rfl,rfl,h⟩,fun ⟨F1,F2,e,h1,h2⟩=>by cases h1;subst e;exact h2⟩
  | cons i L ih =>
    intro F;constructor
    · rintro ⟨F1,F2,rfl,h1,h2⟩;obtain ⟨F3,F4,rfl,h3,h4⟩:=ih.1 h2;exact ⟨F1++F3,F4,by simp,⟨F1,F3,rfl,h1,h3⟩,h4⟩
    · rintro ⟨F1,F2,rfl,⟨F3,F4,rfl,h3,h4⟩,h2⟩;exact ⟨F3,F4++F2,by simp,h3,ih.2 ⟨F4,F2,rfl,h4,h2⟩⟩
theorem iP.at_:∀ {M:List Item} {w:World} {F:List Nat} (i:Nat) {it:Item},iP M w F→M[i]?=some it→∃ Fi,it.p w Fi∧∀ b,b ∈ Fi→b ∈ F
  | [],_,_,i,_,_,hi=>by simp at hi
  | y::M,w,F,i,it,⟨G1,G2,hF,g1,g2⟩,hi=>by
    subst hF
    cases i with
    | zero=>simp at hi;subst hi;exact ⟨G1,g1,fun b hh=>List.mem_append_left _ hh⟩
    | succ i =>
      obtain ⟨Fi,h1,h2⟩:=iP.at_ i g2 (by simpa using hi);exact ⟨Fi,h1,fun b hh=>List.mem_append_right _ (h2 b hh)⟩
structure St (w0:World) (F0:List Nat) (w:World) (L:List Item):Prop where
  os:w.os=w0.os
  tape:w.tape=w0.tape
  output:w.output=w0.output
  size:w0.heap.size≤w.heap.size
  same:∀ b,b<w0.heap.size→b ∉ F0→w.heap[b]?=w0.heap[b]?
  own:∃ F,iP L w F∧F.Nodup∧∀ b,b ∈ F→(b ∈ F0∨w0.heap.size≤b)∧b<w.heap.size
theorem St.init {w:World} {L:List Item} {F:List Nat} (h:iP L w F) (hn:F.Nodup) (hl:∀ b,b ∈ F→b<w.heap.size):St w F w L :=
  ⟨rfl,rfl,rfl,Nat.le_refl _,fun _ _ _=>rfl,F,h,hn,fun b hb=>⟨.inl hb,hl b hb⟩⟩
theorem St.start (w:World):St w [] w []:=St.init (show iP [] w [] from rfl) List.nodup_nil (by simp)
theorem St.below {w0 w:World} {L:List Item} (h:St w0 [] w L):Below w0.heap.size w0 w :=
  ⟨h.os,h.tape,h.output,h.size,fun b hb=>h.same b hb (by simp)⟩
theorem St.drew {w0 w:World} {F0:List Nat} {L:List Item} (h:St w0 F0 w L):St w0 F0 w.drew L :=
  ⟨h.os,h.tape,h.output,h.size,h.same,by
    obtain ⟨F,hF,hn,hb⟩:=h.own
    exact ⟨F,hF.frame (fun _ _=>rfl),hn,hb⟩⟩
theorem iP.perm {L M:List Item} (h:L.Perm M) {w:World}:∀ {F:List Nat},iP L w F→∃ F',iP M w F'∧F'.Perm F:=by
  induction h with
  | nil =>
    intro F h;cases (show F=[] from h);exact ⟨[],rfl,.nil⟩
  | cons x _ ih =>
    rintro F ⟨F1,F2,rfl,h1,h2⟩;obtain ⟨F3,h3,hp⟩:=ih h2;exact ⟨F1++F3,⟨F1,F3,rfl,h1,h3⟩,hp.append_left F1⟩
  | swap x y l =>
    rintro F ⟨F1,F2,rfl,h1,F3,F4,rfl,h3,h4⟩;refine ⟨F3++(F1++F4),⟨F3,_,rfl,h3,F1,F4,rfl,h1,h4⟩,?_⟩;rw [← List.append_assoc, ← List.append_assoc];exact List.Perm.append_right _ List.perm_append_comm
  | trans _ _ ih1 ih2 =>
    intro F hF;obtain ⟨F1,h1,p1⟩:=ih1 hF;obtain ⟨F2,h2,p2⟩:=ih2 h1;exact ⟨F2,h2,p2.trans p1⟩
theorem St.perm {w0 w:World} {F0:List Nat} {L M:List Item} (h:St w0 F0 w L) (hp:L.Perm M):St w0 F0 w M:=by
  obtain ⟨F,hF,hn,hb⟩:=h.own;obtain ⟨F',hF',hpF⟩:=hF.perm hp;exact ⟨h.os,h.tape,h.output,h.size,h.same,F',hF',hpF.nodup_iff.2 hn,fun b hh=>hb b (hpF.mem_iff.1 hh)⟩
theorem xi {α:Type}:∀ (L:List α) (i:Nat) (x:α),L[i]?=some x→L.Perm (x::L.eraseIdx i)
  | [],_,_,h=>by simp at h
  | a::L,0,x,h=>by simp at h;subst h;exact .refl _
  | a::L,i+1,x,h=>by
    have:=xi L i x (by simpa using h);simp only [List.eraseIdx_cons_succ];exact (this.cons a).trans (.swap _ _ _)
theorem St.front {w0 w:World} {F0:List Nat} {L:List Item} (h:St w0 F0 w L) (i:Nat) {x:Item} (hx:L[i]?=some x):St w0 F0 w (x::L.eraseIdx i) :=
  h.perm (xi L i x hx)
theorem St.MU {w0 w:World} {F0:List Nat} {x:Item} {L:List Item} (h:St w0 F0 w (x::L)):St w0 F0 w L:=by
  obtain ⟨F,⟨F1,F2,rfl,_,h2⟩,hn,hb⟩:=h.own;exact ⟨h.os,h.tape,h.output,h.size,h.same,F2,h2,(List.nodup_append.1 hn).2.1,fun b hh=>hb b (List.mem_append_right _ hh)⟩
theorem St.drop {w0 w:World} {F0:List Nat} {L:List Item} (h:St w0 F0 w L) (i:Nat) (hi:i<L.length):St w0 F0 w (L.eraseIdx i) :=
  (h.front i (List.getElem?_eq_getElem hi)).MU
def jo (w:World) (F:List Nat):Nat→Prop:=fun b=>b<w.heap.size∧b ∉ F
theorem St.share {w0 w:World} {F0:List Nat} {L M:List Item} (h:St w0 F0 w (L++M)) :
    ∃ F,iP L w F∧F.Nodup∧(∀ b,b ∈ F→b<w.heap.size) ∧
      (∀ b,jo w0 F0 b→jo w F b) ∧
      (∀ (i:Nat) (it:Item),M[i]?=some it→∃ Fi,it.p w Fi∧∀ b,b ∈ Fi→jo w F b) ∧
      ∀ w' L',St w F w' L'→St w0 F0 w' (L'++M):=by
  obtain ⟨F,hF,hn,hb⟩:=h.own;obtain ⟨F1,F2,rfl,h1,h2⟩:=iP.append.1 hF;obtain ⟨n1,n2,nd⟩:=List.nodup_append.1 hn;refine ⟨F1,h1,n1,fun b hh=>(hb b (List.mem_append_left _ hh)).2,?_,?_,?_⟩
  · rintro b ⟨hlt,hno⟩;refine ⟨Nat.lt_of_lt_of_le hlt h.size,fun hm=>?_⟩
    rcases (hb b (List.mem_append_left _ hm)).1 with h1 | h1
    · exact hno h1
    · omega
  · intro i it hi;obtain ⟨Fi,q1,q2⟩:=h2.at_ i hi;exact ⟨Fi,q1,fun b hh=>⟨(hb b (List.mem_append_right _ (q2 b hh))).2,fun hm=>nd b hm b (q2 b hh) rfl⟩⟩
  · intro w' L' k;obtain ⟨F',hF',hn',hb'⟩:=k.own
    have hk2:∀ b,b ∈ F2→w'.heap[b]?=w.heap[b]?:=fun b hh =>
      k.same b (hb b (List.mem_append_right _ hh)).2 (fun hm=>nd b hm b hh rfl)
    refine ⟨k.os.trans h.os,k.tape.trans h.tape,k.output.trans h.output,Nat.le_trans h.size k.size,?_,F'++F2,iP.append.2 ⟨F',F2,rfl,hF',h2.frame hk2⟩,?_,?_⟩
    · intro b hlt hno;rw [k.same b (Nat.lt_of_lt_of_le hlt h.size) (fun hm=>?_),h.same b hlt hno]
      rcases (hb b (List.mem_append_left _ hm)).1 with h1 | h1
      · exact hno h1
      · omega
    · refine List.nodup_append.2 ⟨hn',n2,?_⟩;intro a ha b hb2 e;subst e;have:=(hb a (List.mem_append_right _ hb2)).2
      rcases (hb' a ha).1 with h1 | h1
      · exact nd a h1 a hb2 rfl
      · omega
    · intro b hh
      rcases List.mem_append.1 hh with hh | hh
      · have hs:=h.size;refine ⟨?_,(hb' b hh).2⟩
        rcases (hb' b hh).1 with h1 | h1
        · exact (hb b (List.mem_append_left _ h1)).1
        · exact .inr (by omega)
      · exact ⟨(hb b (List.mem_append_right _ hh)).1,Nat.lt_of_lt_of_le (hb b (List.mem_append_right _ hh)).2 k.size⟩
theorem St.head {w0 w w':World} {F0:List Nat} {x:Item} {L M:List Item} (h:St w0 F0 w (x::L))
    (hx:∀ F,x.p w F→F.Nodup→(∀ b,b ∈ F→b<w.heap.size)→St w F w' M):St w0 F0 w' (M++L):=by
  obtain ⟨F,hF,hn,hlt,_,_,hm⟩:=St.share (L:=[x]) (M:=L) h;obtain ⟨F1,F2,rfl,h1,h2⟩:=hF;cases h2;rw [List.append_nil] at hn hlt hm;exact hm w' M (hx F1 h1 hn hlt)
theorem St.add {w0 w w':World} {F0:List Nat} {L M:List Item} (h:St w0 F0 w L) (hx:St w [] w' M):St w0 F0 w' (M++L):=by
  obtain ⟨F,hF,hn,hlt,_,_,hm⟩:=St.share (L:=[]) (M:=L) h;cases hF;exact hm w' M hx
class hD (α:Type) where
  ty:TypeId
  sz:Nat
  zero:α
  zc:List Value
  pos:0<sz
  rd:(Nat→Prop)→World→List Value→α→Prop
  own:World→List Value→List Nat→α→Prop
  kQ:∀ {S w cs x},rd S w cs x→cs.length=sz
  iU:∀ {w cs F x},own w cs F x→cs.length=sz
  km:∀ {S w w' cs x},rd S w cs x→(∀ b,S b→w'.heap[b]?=w.heap[b]?)→rd S w' cs x
  kh:∀ {S S' w cs x},rd S w cs x→(∀ b,S b→S' b)→rd S' w cs x
  jB:∀ {w w' cs F x},own w cs F x→(∀ b,b ∈ F→w'.heap[b]?=w.heap[b]?)→own w' cs F x
  kT:∀ {S w cs F x},own w cs F x→(∀ b,b ∈ F→S b)→rd S w cs x
  ke:∀ {w cs F x},own w cs F x→∀ u,u ∈ cs→u.oneCell'=true
  jq:∀ w,own w zc [] zero
section
variable {α:Type} [hD α]
structure iM (S:Nat→Prop) (w:World) (a:Option Addr) (c:Nat) (l:List α):Prop where
  le:l.length≤c
  cap:c≤maxLen
  cells:l ≠ []→∃ b o,a=some ⟨b,o,none⟩∧S b∧∀ (k:Nat) (x:α),l[k]?=some x→∃ cs,hD.rd S w cs x∧∀ (j:Nat) (u:Value),cs[j]?=some u→w.cell? ⟨b,o+k * hD.sz α+j,none⟩=some u
theorem iM.mf {S:Nat→Prop} {w w':World} {a:Option Addr} {c:Nat} {l:List α} (h:iM S w a c l) (hk:∀ b,S b→w'.heap[b]?=w.heap[b]?):iM S w' a c l:=by
  refine ⟨h.le,h.cap,fun hne=>?_⟩;obtain ⟨b,o,ha,hb,hc⟩:=h.cells hne;refine ⟨b,o,ha,hb,fun k x hx=>?_⟩;obtain ⟨cs,h1,h2⟩:=hc k x hx;exact ⟨cs,hD.km h1 hk,fun j u hu=>(World.cell?_of_block (w:=w) (hk b hb)).trans (h2 j u hu)⟩
theorem iM.mono {S S':Nat→Prop} {w:World} {a:Option Addr} {c:Nat} {l:List α} (h:iM S w a c l) (hk:∀ b,S b→S' b):iM S' w a c l:=by
  refine ⟨h.le,h.cap,fun hne=>?_⟩;obtain ⟨b,o,ha,hb,hc⟩:=h.cells hne;refine ⟨b,o,ha,hk b hb,fun k x hx=>?_⟩;obtain ⟨cs,h1,h2⟩:=hc k x hx;exact ⟨cs,hD.kh h1 hk,h2⟩
theorem iM.nil (S:Nat→Prop) (w:World) (a:Option Addr) (c:Nat) (hc:c≤maxLen):iM S w a c ([]:List α):=⟨Nat.zero_le _,hc,fun h=>absurd rfl h⟩
def jC (w:World):List Value→List Nat→List α→Prop
  | _,F,[]=>F=[]
  | cs,F,x::l=>∃ c1 c2 F1 F2,cs=c1++c2∧F=F1++F2∧hD.own w c1 F1 x∧jC w c2 F2 l
theorem jC.frame {w w':World}:∀ {l:List α} {cs:List Value} {F:List Nat},jC w cs F l→(∀ b,b ∈ F→w'.heap[b]?=w.heap[b]?)→jC w' cs F l
  | [],_,_,h,_=>h
  | x::l,_,_,⟨c1,c2,F1,F2,hc,hF,h1,h2⟩,hb=>by
    subst hF;exact ⟨c1,c2,F1,F2,hc,rfl,hD.jB h1 (fun b h=>hb b (List.mem_append_left _ h)),jC.frame h2 (fun b h=>hb b (List.mem_append_right _ h))⟩
theorem jC.at_ {w:World}:∀ {l:List α} {cs:List Value} {F:List Nat},jC w cs F l→∀ (k:Nat) (x:α),l[k]?=some x →
    ∃ c1 Fk,hD.own w c1 Fk x∧(∀ b,b ∈ Fk→b ∈ F)∧∀ (j:Nat) (u:Value),c1[j]?=some u→cs[k * hD.sz α+j]?=some u
  | [],_,_,_,k,x,hk=>by simp at hk
  | y::l,cs,F,⟨c1,c2,F1,F2,hc,hF,h1,h2⟩,k,x,hk=>by
    subst hF;subst hc;have hl:=hD.iU h1
    cases k with
    | zero =>
      simp at hk;subst hk;refine ⟨c1,F1,h1,fun b hb=>List.mem_append_left _ hb,fun j u hu=>?_⟩
      have hj:j<c1.length:=by
        rcases Nat.lt_or_ge j c1.length with h | h
        · exact h
        · rw [List.getElem?_eq_none h] at hu;cases hu
      simpa [List.getElem?_append_left hj] using hu
    | succ k =>
      obtain ⟨cx,Fk,q1,q2,q3⟩:=jC.at_ h2 k x (by simpa using hk);refine ⟨cx,Fk,q1,fun b hb=>List.mem_append_right _ (q2 b hb),fun j u hu=>?_⟩;have:=q3 j u hu;rw [List.getElem?_append_right (by rw [hl,Nat.succ_mul];omega),hl];rw [show (k+1) * hD.sz α+j - hD.sz α=k * hD.sz α+j by rw [Nat.succ_mul];omega];exact this
theorem jC.append {w:World}:∀ {l m:List α} {cs:List Value} {F:List Nat},jC w cs F (l++m) ↔ ∃ c1 c2 F1 F2,cs=c1++c2∧F=F1++F2∧c1.length=l.length * hD.sz α∧jC w c1 F1 l∧jC w c2 F2 m
  | [],m,cs,F=>⟨fun h=>⟨[],cs,[],F,rfl,rfl,by simp,rfl,h⟩,fun ⟨c1,c2,F1,F2,hc,hF,hl,h1,h2⟩=>by
      have:c1=[]:=List.eq_nil_of_length_eq_zero (by simpa using hl)
      subst this;cases (show F1=[] from h1);subst hc;subst hF;exact h2⟩
  | x::l,m,cs,F=>by
    constructor
    · rintro ⟨c1,c2,F1,F2,rfl,rfl,h1,h2⟩;obtain ⟨d1,d2,G1,G2,rfl,rfl,hl,g1,g2⟩:=jC.append.1 h2;exact ⟨c1++d1,d2,F1++G1,G2,by simp,by simp,by simp [hD.iU h1,hl,Nat.succ_mul,Nat.add_comm],⟨c1,d1,F1,G1,rfl,rfl,h1,g1⟩,g2⟩
    · rintro ⟨c1,c2,F1,F2,rfl,rfl,hl,⟨d1,d2,G1,G2,rfl,rfl,h1,h2⟩,h3⟩;refine ⟨d1,d2++c2,G1,G2++F2,by simp,by simp,h1,jC.append.2 ⟨d2,c2,G2,F2,rfl,rfl,?_,h2,h3⟩⟩;have:=hD.iU h1;simp [Nat.succ_mul] at hl;omega
theorem jC.take {w:World}:∀ {l:List α} {cs:List Value} {F:List Nat},jC w cs F l→jC w (cs.take (l.length * hD.sz α)) F l∧l.length * hD.sz α≤cs.length
  | [],cs,F,h=>⟨h,by simp⟩
  | x::l,cs,F,⟨c1,c2,F1,F2,hc,hF,h1,h2⟩=>by
    subst hc;have hl:=hD.iU h1;obtain ⟨q1,q2⟩:=jC.take h2
    have e:(x::l).length * hD.sz α=c1.length+l.length * hD.sz α:=by simp [Nat.succ_mul,hl,Nat.add_comm]
    refine ⟨⟨c1,c2.take (l.length * hD.sz α),F1,F2,?_,hF,h1,q1⟩,by rw [e,List.length_append];omega⟩;rw [e,List.take_length_add_append]
theorem jC.more {w:World}:∀ {l:List α} {cs:List Value} {F:List Nat},jC w cs F l→∀ ds,jC w (cs++ds) F l
  | [],_,_,h,_=>h
  | x::l,_,_,⟨c1,c2,F1,F2,hc,hF,h1,h2⟩,ds=>⟨c1,c2++ds,F1,F2,by simp [hc],hF,h1,jC.more h2 ds⟩
theorem jC.one {w:World}:∀ {l:List α} {cs:List Value} {F:List Nat},jC w cs F l→∀ u,u ∈ cs.take (l.length * hD.sz α)→u.oneCell'=true
  | [],_,_,_,u,hu=>by simp at hu
  | x::l,cs,F,⟨c1,c2,F1,F2,hc,hF,h1,h2⟩,u,hu=>by
    subst hc
    have e:(x::l).length * hD.sz α=c1.length+l.length * hD.sz α:=by simp [Nat.succ_mul,hD.iU h1,Nat.add_comm]
    rw [e,List.take_length_add_append] at hu
    rcases List.mem_append.1 hu with h | h
    · exact hD.ke h1 u h
    · exact jC.one h2 u h
theorem jC.GR {w:World}:∀ (k:Nat),jC w (List.replicate k (hD.zc α)).flatten [] (List.replicate k (hD.zero:α))
  | 0=>rfl
  | k+1=>⟨hD.zc α,_,[],[],by simp [List.replicate_succ],rfl,hD.jq w,jC.GR k⟩
theorem jC.set {w:World}:∀ {l:List α} {cs:List Value} {F:List Nat} (k:Nat) {x:α},jC w cs F l→l[k]?=some x →
    ∃ c0 c1 c2 F0 F1 F2,cs=c0++(c1++c2)∧F=F0++(F1++F2)∧c0.length=k * hD.sz α∧hD.own w c1 F1 x ∧
      ∀ (w':World) (d1:List Value) (G1:List Nat) (y:α),hD.own w' d1 G1 y→(∀ b,b ∈ F0++F2→w'.heap[b]?=w.heap[b]?)→jC w' (c0++(d1++c2)) (F0++(G1++F2)) (l.set k y)
  | [],_,_,k,_,_,hk=>by simp at hk
  | z::l,cs,F,0,x,⟨c1,c2,F1,F2,hc,hF,h1,h2⟩,hk=>by
    simp at hk;subst hk;exact ⟨[],c1,c2,[],F1,F2,hc,hF,by simp,h1,fun w' d1 G1 y hy hb=>⟨d1,c2,G1,F2,rfl,rfl,hy,h2.frame (fun b h=>hb b (by simpa using h))⟩⟩
  | z::l,cs,F,k+1,x,⟨c1,c2,F1,F2,hc,hF,h1,h2⟩,hk=>by
    subst hc;subst hF;obtain ⟨e0,e1,e2,G0,G1,G2,rfl,rfl,hl,q1,q2⟩:=jC.set k h2 (by simpa using hk);refine ⟨c1++e0,e1,e2,F1++G0,G1,G2,by simp,by simp,by simp [hl,Nat.succ_mul,hD.iU h1,Nat.add_comm],q1,fun w' d1 H1 y hy hb=>?_⟩
    exact ⟨c1,_,F1,_,by simp,by simp,hD.jB h1 (fun b h=>hb b (by simp [h])),q2 w' d1 H1 y hy (fun b h=>hb b (by
      rcases List.mem_append.1 h with h | h<;>simp [h]))⟩
def mc (w:World) (a:Option Addr) (c:Nat) (F:List Nat) (l:List α):Prop :=
  (a=none∧c=0∧l=[]∧F=[]) ∨
  ∃ g o cur F',a=some ⟨g,o,none⟩∧w.heap[g]?=some (.cells cur (hD.ty α) (0,0))∧o+c * hD.sz α≤cur.size∧l.length≤c∧c≤maxLen∧F=g::F'∧jC w (cur.toList.drop o) F' l
theorem mc.frame {w w':World} {a:Option Addr} {c:Nat} {F:List Nat} {l:List α} (h:mc w a c F l) (hb:∀ b,b ∈ F→w'.heap[b]?=w.heap[b]?):mc w' a c F l:=by
  rcases h with h | ⟨g,o,cur,F',ha,hg,hs,h1,h2,hF,he⟩
  · exact .inl h
  · subst hF;exact .inr ⟨g,o,cur,F',ha,by rw [hb g (by simp)];exact hg,hs,h1,h2,rfl,he.frame (fun b h=>hb b (List.mem_cons_of_mem _ h))⟩
theorem mc.rd {w:World} {a:Option Addr} {c:Nat} {F:List Nat} {l:List α} {S:Nat→Prop} (h:mc w a c F l) (hS:∀ b,b ∈ F→S b):iM S w a c l:=by
  rcases h with ⟨rfl,rfl,rfl,rfl⟩ | ⟨g,o,cur,F',ha,hg,hs,h1,h2,hF,he⟩
  · exact iM.nil _ _ _ _ (Nat.zero_le _)
  · subst hF;refine ⟨h1,h2,fun _=>⟨g,o,ha,hS g (by simp),fun k x hx=>?_⟩⟩;obtain ⟨c1,Fk,q1,q2,q3⟩:=he.at_ k x hx;refine ⟨c1,hD.kT q1 (fun b hb=>hS b (List.mem_cons_of_mem _ (q2 b hb))),fun j u hu=>?_⟩;have:=q3 j u hu;rw [List.getElem?_drop] at this;rw [cell_of_row w g _ cur _ (0,0) hg,Nat.add_assoc];simpa using this
def sl (a:Option Addr) (c:Nat) (l:List α):Item:=⟨fun w F=>mc w a c F l,fun _ _ _ h hb=>h.frame hb⟩
end
def bx (g:Nat) (ty:TypeId) (cs:List Value):Item :=
  ⟨fun w F=>F=[g]∧w.heap[g]?=some (.cells cs.toArray ty (0,0)),fun w w' F h hb=>⟨h.1,(hb g (by rw [h.1];simp)).trans h.2⟩⟩
end Go.Kx
