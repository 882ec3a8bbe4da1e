/- A thing of one's own with a second name for a list that stands in it, or beside it. No program in sight. -/
import Derived.Test.YtdlodpchnaojhaaGreatOwn
namespace Go.Kx
open Go Go.RowKit
set_option linter.unusedVariables false
set_option linter.unusedSimpArgs false
section
variable {P:Program} {w0 w w1:World} {F0 F:List Nat} {L:List Item} {α β γ:Type} [iB α] [iB β] [iB γ]
def al (x:Item) (b:Option Addr) (k:Nat) (m:List β):Item :=
  ⟨fun w F=>∃ F1 F2,F=F1++F2∧x.p w F1∧jf (fun q=>q ∈ F) w b k m,fun w w' F h hb=>by
    obtain ⟨F1,F2,rfl,h1,h2⟩:=h
    exact ⟨F1,F2,rfl,x.frame w w' F1 h1 fun q hq=>hb q (List.mem_append_left _ hq),h2.ly hb⟩⟩
theorem St.Kk {a:Option Addr} {c:Nat} {l:List α} (h:St w0 F0 w L) (i:Nat) (hi:L[i]?=some (sl a c l)):St w0 F0 w (L.set i (al (sl a c l) a c l)) :=
  h.setAt hi fun G hG hn hlt=>St.init ⟨G,[],by simp,⟨G,[],by simp,hG,m0.rd hG fun q hq=>hq⟩,rfl⟩ hn hlt
theorem St.Iu {x:Item} {b:Option Addr} {k:Nat} {m:List β} (h:St w0 F0 w (x::sl b k m::L)):St w0 F0 w (al x b k m::L):=by
  have h':St w0 F0 w ([x,sl b k m]++L):=h
  obtain ⟨F,hF,hn,hlt,_,_,hm⟩:=h'.share
  obtain ⟨F1,F2,rfl,q1,F3,F4,rfl,q2,q3⟩:=hF
  cases q3
  exact hm w [al x b k m] (St.init ⟨F1++F3,[],by simp,⟨F1,F3,rfl,q1,m0.rd q2 fun q hq=>List.mem_append_right _ hq⟩,rfl⟩ (by simpa using hn) (by simpa using hlt))
theorem St.BX {x:Item} {b:Option Addr} {k:Nat} {m:List β} (h:St w0 F0 w L) (i:Nat) (hi:L[i]?=some (al x b k m)):St w0 F0 w (L.set i x) :=
  h.setAt hi fun G hG hn hlt=>by
    obtain ⟨F1,F2,rfl,q,_⟩:=hG
    refine ⟨rfl,rfl,rfl,Nat.le_refl _,fun _ _ _=>rfl,F1,⟨F1,[],by simp,q,rfl⟩,(List.nodup_append.1 hn).1,fun b hb=>⟨.inl (List.mem_append_left _ hb),hlt b (List.mem_append_left _ hb)⟩⟩
theorem St.Jy {x:Item} {b:Option Addr} {k:Nat} {m:List β} (h:St w0 F0 w L) (i:Nat) (hi:L[i]?=some (al x b k m)) :
    ∃ F,(al x b k m).p w F∧jf (fun q=>q ∈ F) w b k m∧St w0 F0 w (L.set i (fz w F)):=by
  have h':St w0 F0 w ([al x b k m]++L.eraseIdx i):=h.front i hi
  obtain ⟨F,hF,hn,hlt,_,_,hm⟩:=h'.share
  obtain ⟨F1,F2,rfl,q1,q2⟩:=hF
  cases (show F2=[] from q2)
  rw [List.append_nil] at hn hlt hm
  have hr:jf (fun q=>q ∈ F1) w b k m:=by
    obtain ⟨G1,G2,_,_,q⟩:=q1
    exact q
  exact ⟨F1,q1,hr,(hm w [fz w F1] (St.init ⟨F1,[],by simp,⟨rfl,fun _ _=>rfl⟩,rfl⟩ hn hlt)).perm (eraseIdx_set L i _ (jv hi))⟩
theorem St.Lc {x:Item} (h:St w0 F0 w L) (i:Nat) (hi:L[i]?=some (fz w1 F)) (hx:x.p w1 F):St w0 F0 w (L.set i x) :=
  h.setAt hi fun G hG hn hlt=>by
    obtain ⟨rfl,hb⟩:=hG
    exact St.init ⟨G,[],by simp,x.frame w1 w G hx hb,rfl⟩ hn hlt
theorem Jd {w':World} {F:List Nat} {x:Item} {b:Option Addr} {k:Nat} {m:List β} {FA:List Nat} (hs:St w F w' [x]) (hA:jf (fun q=>q ∈ FA) w b k m) (hsub:∀ q,q ∈ FA→q ∈ F∧q<w.heap.size∧w'.heap[q]?=w.heap[q]?) (hn:FA.Nodup):St w F w' [al x b k m]:=by
  obtain ⟨F',hF',hn',hb'⟩:=hs.own
  obtain ⟨F1,F2,rfl,q1,q2⟩:=hF'
  cases (show F2=[] from q2)
  rw [List.append_nil] at hn' hb'
  refine ⟨hs.os,hs.tape,hs.output,hs.size,hs.same,F1++FA.filter (fun q=>!F1.contains q),⟨F1++FA.filter (fun q=>!F1.contains q),[],by simp,⟨F1,_,rfl,q1,?_⟩,rfl⟩,?_,?_⟩
  · refine (hA.ly fun q hq=>(hsub q hq).2.2).mono fun q hq=>?_
    by_cases hm:q ∈ F1
    · exact List.mem_append_left _ hm
    · exact List.mem_append_right _ (List.mem_filter.2 ⟨hq,by simpa using hm⟩)
  · refine List.nodup_append.2 ⟨hn',hn.filter _,fun p hp q hq e=>?_⟩
    subst e
    have:=(List.mem_filter.1 hq).2
    simp [hp] at this
  · intro q hq
    rcases List.mem_append.1 hq with hq | hq
    · exact hb' q hq
    · have:=hsub q (List.mem_filter.1 hq).1
      exact ⟨.inl this.1,Nat.lt_of_lt_of_le this.2.1 hs.size⟩
end
theorem iC.cells {P:Program} {ρ:Operand→Value} {t:TypeId} {x:Operand} {b o m:Nat} {cs:List Value} (ht:kh P t=some (some m)) (hx:ρ x=.pointer (some ⟨b,o,none⟩)) (hl:cs.length=m) :
    iC P ρ (.load t x) (fun w=>∀ (j:Nat) (u:Value),cs[j]?=some u→w.cell? ⟨b,o+j,none⟩=some u) (.agg cs.toArray) :=
  fun d ty pos aft gd w hc=>iC.agg ht hx hl d ty pos aft gd w hc
section
variable {P:Program} {n:Nat} {ops:Array Oper} {Q:lL} {rest:List Oper} {e:Env} {w w0:World} {F0:List Nat} {L M:List Item} {d:Nat} {ty:TypeId} {pos:String} {aft:Array Edge} {α β γ:Type} [iB α] [iB β] [iB γ]
theorem LW.K5 {t:TypeId} {ty2:TypeId} {pos2:String} {aft2:Array Edge} {x s:Operand} {d1:Nat} {vs:Array Value} {i:Nat} {a aX b:Option Addr} {c cX k:Nat} {lX:List γ} {m:List β} {l l':List α} {y:α} (hT:nm P t α)
    (hp:(ev e x).cells=vs) (hb:xi P t 1 [(0,ev e x)]=some (iB.ty α,vs)) (hs:ev e s=.slice a l.length c) (hs1:ev (k6 e d1 undef) s=ev e s) (hl:app l [y]=some l')
    (hS:St w0 F0 w (al (sl aX cX lX) b k m::(M++L))) (hi:L[i]?=some (sl a c l)) (hM:∀ (w:World) (G:List Nat),jb (sl aX cX lX::M) w G→iB.own w vs.toList G y) (hd1:Nat.ble (d1+1) n=true) (hd:Nat.ble (d+1) n=true)
    (h:∀ (v1:Value) (a':Option Addr) (c':Nat) (w':World),St w0 F0 w' (L.set i (al (sl a' c' l') b k m))→Fr w w' ((a.map (·.block)).toList)→LW P n ops Q rest (k6 (k6 e d1 v1) d (.slice a' l'.length c')) w') :
    LW P n ops Q (⟨some d1,.buildSlice t 1 #[(0,x)],ty2,pos2,aft2,none⟩::⟨some d,.call { callee:=.builtin .append,args:=#[s,.tmp d1],argTypes:=#[t,t] },ty,pos,aft,none⟩::rest) e w:=by
  have h':St w0 F0 w ((al (sl aX cX lX) b k m::(M++[sl a c l]))++L.eraseIdx i):=by
    refine hS.perm ?_
    have:=uE L i (sl a c l) hi
    simp only [List.cons_append,List.append_assoc,List.nil_append]
    exact (this.append_left M).cons _
  obtain ⟨F,hF,hn,hlt,_,_,hm⟩:=h'.share
  obtain ⟨FA,FR,rfl,hA,hR⟩:=hF
  obtain ⟨F1,F2,rfl,hX,hr⟩:=hA
  obtain ⟨FM,FL,rfl,hMh,hL⟩:=jb.append.1 hR
  obtain ⟨Fl,Fe,rfl,hl1,hl2⟩:=hL
  cases (show Fe=[] from hl2)
  obtain ⟨n1,n2,nd⟩:=List.nodup_append.1 hn
  have hT0:St w ((F1++F2)++(FM++(Fl++[]))) w ((sl aX cX lX::M)++[sl a c l]):=by
    refine ⟨rfl,rfl,rfl,Nat.le_refl _,fun _ _ _=>rfl,F1++(FM++(Fl++[])),?_,?_,?_⟩
    · exact ⟨F1,_,rfl,hX,hR⟩
    · refine List.nodup_append.2 ⟨(List.nodup_append.1 n1).1,n2,fun p hp q hq=>nd p (List.mem_append_left _ hp) q hq⟩
    · intro q hq
      have:q ∈ (F1++F2)++(FM++(Fl++[])):=by
        rcases List.mem_append.1 hq with hq | hq
        · exact List.mem_append_left _ (List.mem_append_left _ hq)
        · exact List.mem_append_right _ hq
      exact ⟨.inl this,hlt q this⟩
  refine LW.lj (M:=sl aX cX lX::M) (L:=[sl a c l]) (i:=0) hT hp hb hs hs1 hl hT0 rfl hM hd1 hd fun v1 a' c' w' hS' hf=>h v1 a' c' w' ?_ hf
  have hS':St w ((F1++F2)++(FM++(Fl++[]))) w' [sl a' c' l']:=hS'
  have hblk:∀ q,q ∈ ((a.map (·.block)).toList)→q ∈ Fl:=by
    intro q hq
    rcases hl1 with ⟨rfl,_⟩ | ⟨g,o,cur,F',rfl,_,_,_,_,rfl,_⟩
    · simp at hq
    · simp at hq;subst hq;simp
  have hover:=Jd hS' hr (fun q hq=>⟨List.mem_append_left _ hq,hlt q (List.mem_append_left _ hq),hf.same q (hlt q (List.mem_append_left _ hq)) fun hb=>nd q hq q (List.mem_append_right _ (List.mem_append_left _ (hblk q hb))) rfl⟩) n1
  exact (hm w' _ hover).perm (eraseIdx_set L i _ (jv hi))
end
end Go.Kx
