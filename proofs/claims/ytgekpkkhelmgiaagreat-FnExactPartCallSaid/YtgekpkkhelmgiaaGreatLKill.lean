/- Plain laws: who is killed, who wakes. No program in sight. -/
import Derived.Test.YtgekpkkhelmgiaaGreatLHandle
import Derived.Test.YtgekpkkhelmgiaaGreatLRun
import Derived.Test.YtgekpkkhelmgiaaGreatLPut
namespace Go.Kx
open Go
set_option linter.unusedVariables false
set_option linter.unusedSimpArgs false
set_option maxRecDepth 10000
def better (p:DPart) (v i:Int):Int:=if decide ((balAt p i).cpu≤(balAt p v).cpu) then i else v
def victim (p:DPart) (now:Int):Int:=match threads p now with
  | a::b::l=>(b::l).foldl (better p) a
  | _=>-1
theorem threads_at {p:DPart} {now y:Int} (h:y ∈ threads p now):partOk p=true∧0≤y∧y≤9:=threads_rng h
def changeAt (p:DPart) (l:List DObj):DPart:=DPart.mk p.label p.own p.tree (DHeap.mk l p.heap.gc) p.taps p.next p.want p.spent p.press p.lost
def tilled (o:DObj) (t:Int):DObj:=DObj.mk o.gen o.kind o.box o.res t o.pages o.wait o.got o.ran o.mark o.links o.data o.queue
def killed (p:DPart) (now:Int):List DObj:=if decide (victim p now ≥ 0) then p.heap.arena.set (victim p now).toNat (tilled (nth p.heap.arena (victim p now)) (IntKind.i64.wrap (now - 1))) else p.heap.arena
def goodP (l:List DObj) (now part h:Int):Bool:=(arenaOk l&&(hOk h&&(hPart h==part)))&&(((nth l (hSlot h)).kind != 0)&&(((nth l (hSlot h)).gen==hGen h)&&nth (reach l now) (hSlot h)))
def goodSlot (l:List DObj) (now part h:Int):Int:=bif goodP l now part h then hSlot h else -1
theorem hSlot_ok {h:Int} (q:hOk h=true):0≤hSlot h∧hSlot h≤9:=(hSlot_rng (h:=h) (by unfold hPart;rw [q,if_pos rfl];rw [hOk_iff] at q;omega)).2
theorem i_GoodSlot {N:Nat} (hN:BIG≤N) {l:List DObj} (hb:szL sz_DObj l<BIG) (now part h:Int):F_i_GoodSlot N l now part h=some (goodSlot l now part h):=by
  unfold F_i_GoodSlot goodSlot goodP
  simp only [i_Reach hN hb,i_isHandle,i_HandlePart,i_HandleSlot,i_HandleGen,Option.bind_some,bOr]
  cases ha:arenaOk l
  · have e:reach l now=[]:=by unfold reach;rw [ha];rfl
    rw [e];rfl
  have har:=arenaOk_iff.1 ha
  have hl:=reach_len har now
  rw [show (((reach l now).length:Int)==0)=false by rw [hl];rfl,show inR h 0 29999=hOk h from rfl]
  cases hh:hOk h
  · rfl
  obtain ⟨s0,s9⟩:=hSlot_ok hh
  simp only [bne,(har.at s0 s9).1,idx_ok (l:=reach l now) s0 (by omega),Option.bind_some]
  cases hPart h==part <;> cases (nth l (hSlot h)).kind==0 <;> cases (nth l (hSlot h)).gen==hGen h <;> cases nth (reach l now) (hSlot h) <;> rfl
theorem s_GoodSlot {N:Nat} (hN:BIG≤N) {l:List DObj} (hb:szL sz_DObj l<BIG) (hw:wA l) (now part h:Int):F_s_GoodSlot N l now part h=some (goodSlot l now part h):=by
  unfold F_s_GoodSlot goodSlot goodP
  simp only [s_ArenaOk hN hb hw,s_Reach hN hb hw,s_l8Handle,s_HandlePart,s_HandleSlot,s_HandleGen,Option.bind_some,bOr]
  cases ha:arenaOk l
  · rfl
  have har:=arenaOk_iff.1 ha
  have hl:=reach_len har now
  rw [show inR h 0 29999=hOk h from rfl]
  cases hh:hOk h
  · rfl
  obtain ⟨s0,s9⟩:=hSlot_ok hh
  simp only [bne,(har.at s0 s9).1,idx_ok (l:=reach l now) s0 (by omega),Option.bind_some]
  cases hPart h==part <;> cases (nth l (hSlot h)).kind==0 <;> cases (nth l (hSlot h)).gen==hGen h <;> cases nth (reach l now) (hSlot h) <;> rfl
def wakeP (p:DPart) (me now:Int) (o:DObj):Bool:=decide (o.wait > 0)&&decide (goodSlot p.heap.arena now me (IntKind.i64.wrap (o.wait - 1))<0)
def woken (o:DObj):DObj:=DObj.mk o.gen o.kind o.box o.res o.til o.pages 0 (-1) o.ran o.mark o.links o.data o.queue
def wakes (p:DPart) (me now:Int):List DObj:=p.heap.arena.map fun o=>if wakeP p me now o then woken o else o
theorem iter_map {α:Type} {body:List α×Int→Option ((List α×Int)⊕(List α×Int))} (x:List α) (f:α→α) {N:Nat} (hN:x.length<N)
    (hs:∀ (k:Nat) (t:List α) (y:α),t.length=x.length→t[k]?=some y→x[k]?=some y→k<x.length→body (t,(k:Int))=some (.inl (t.set k (f y),((k+1:Nat):Int))))
    (he:∀ t,t.length=x.length→body (t,(x.length:Int))=some (.inr (t,(x.length:Int)))):iter body N (x,0)=some (x.map f,(x.length:Int)):=by
  have key:∀ (r:List α) (d d':List α) (M:Nat),d'.length=d.length→x=d'++r→r.length<M→iter body M (d++r,(d.length:Int))=some (d++r.map f,(x.length:Int)):=by
    intro r
    induction r with
    | nil =>
      intro d d' M hd hx hM
      cases M with
      | zero=>simp at hM
      | succ M =>
        have e:d.length=x.length:=by rw [hx];simp [hd]
        unfold iter
        rw [List.append_nil,e,he d e];simp
    | cons y r ih =>
      intro d d' M hd hx hM
      cases M with
      | zero=>simp at hM
      | succ M =>
        have hlen:(d++y::r).length=x.length:=by rw [hx];simp [hd]
        unfold iter
        rw [hs d.length (d++y::r) y hlen (by rw [List.getElem?_append_right (Nat.le_refl _)];simp) (by rw [hx,List.getElem?_append_right (by omega)];simp [hd]) (by rw [← hlen];simp)]
        have e:(d++y::r).set d.length (f y)=(d++[f y])++r:=by rw [List.set_append_right _ _ (Nat.le_refl _)];simp
        have e2:d.length+1=(d++[f y]).length:=by simp
        simp only [Option.bind_some,e]
        rw [e2,ih (d++[f y]) (d'++[y]) M (by simp [hd]) (by rw [hx];simp) (by simp at hM;omega)]
        simp
  exact key x [] [] N rfl rfl hN
theorem set_get {α:Type} {l:List α} {k:Nat} {y:α} (h:l[k]?=some y):l.set k y=l:=by
  apply List.ext_getElem? fun i=>?_
  rw [List.getElem?_set]
  split
  · rename_i e
    subst e
    rw [if_pos (lt_of_some h),h]
  · rfl
end Go.Kx
