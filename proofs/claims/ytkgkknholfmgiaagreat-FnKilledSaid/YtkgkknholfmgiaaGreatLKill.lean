/- Plain laws: who is killed, who wakes. No program in sight. -/
import Derived.Test.YtkgkknholfmgiaaGreatLSum
import Derived.Test.YtkgkknholfmgiaaGreatLPut
namespace Go.Kx
open Go
set_option linter.unusedVariables false
set_option linter.unusedSimpArgs false
set_option maxRecDepth 10000
def better (p:DPart) (v i:Int):Int:=if decide ((balAt p i).cpu≤(balAt p v).cpu) then i else v
def victim (p:DPart) (now:Int):Int:=match threads p now with
  | a::b::l=>(b::l).foldl (better p) a
  | _=>-1
theorem better_mem {p:DPart} {m:List Int}:∀ (l:List Int) (v:Int),v ∈ m→(∀ y,y ∈ l→y ∈ m)→l.foldl (better p) v ∈ m
  | [],v,hv,_=>hv
  | y::l,v,hv,h=>by
    rw [List.foldl_cons]
    refine better_mem l _ ?_ fun z hz=>h z (by simp [hz])
    unfold better
    split
    · exact h y (by simp)
    · exact hv
theorem victim_mem {p:DPart} {now:Int} (h:decide (victim p now ≥ 0)=true):victim p now ∈ threads p now:=by
  unfold victim at h ⊢
  cases ht:threads p now with
  | nil=>rw [ht] at h;simp at h
  | cons a l=>cases l with
    | nil=>rw [ht] at h;simp at h
    | cons b l=>exact better_mem (b::l) a (by simp) fun y hy=>by simp at hy ⊢;exact .inr hy
theorem vicLoop {N:Nat} (hN:BIG≤N) {p:DPart} {l:List Int} (hl:l.length<BIG) {body:Int×Int→Option ((Int×Int)⊕(Int×Int))} (hm:∀ y,y ∈ l→y ∈ l) {v0:Int} (I:Int→Prop) (h0:I v0)
    (hs:∀ (k:Nat) (v y:Int),l[k]?=some y→k<l.length→I v→body (v,(k:Int))=some (.inl (better p v y,((k+1:Nat):Int)))∧I (better p v y)) (he:∀ v,body (v,(l.length:Int))=some (.inr (v,(l.length:Int)))) :
    iter body N (v0,0)=some (l.foldl (better p) v0,(l.length:Int)):=by
  rw [show (v0,(0:Int))=(fun (k:Nat) (v:Int)=>(v,(k:Int))) 0 v0 from rfl,
    iter_fold l (fun (k:Nat) (v:Int)=>(v,(k:Int))) (fun _ v y=>better p v y) (fun v=>(v,(l.length:Int))) (fun _ v=>I v) (fun k v y hy hk hI=>hs k v y hy hk hI) (fun v _=>he v) (Nat.lt_of_lt_of_le hl hN) h0,foldI_const]
theorem threads_at {p:DPart} {now y:Int} (h:y ∈ threads p now):partOk p=true∧0≤y∧y≤9:=threads_rng h
theorem i_Victim {N:Nat} (hN:BIG≤N) {p:DPart} (hb:sz_DPart p<BIG) (now:Int):F_i_Victim N p now=some (victim p now):=by
  have hl:=threads_len p now
  unfold F_i_Victim victim
  rw [i_Threads hN hb,Option.bind_some]
  cases ht:threads p now with
  | nil=>rfl
  | cons a l=>cases l with
    | nil=>rfl
    | cons b l =>
      have hm:∀ y,y ∈ a::b::l→partOk p=true∧0≤y∧y≤9:=fun y hy=>threads_at (by rw [ht];exact hy)
      rw [ht] at hl
      rw [show decide ((((a::b::l).length:Nat):Int)<2)=false by simp;omega,show idx (a::b::l) 0=some a from rfl]
      simp only [cond_false,Option.bind_some]
      rw [vicLoop hN (p:=p) (l:=a::b::l) hl (fun _ h=>h) (fun v=>partOk p=true∧0≤v∧v≤9) (hm a (by simp))]
      · have e:better p a a=a:=by unfold better;split <;> rfl
        rw [Option.bind_some,List.foldl_cons,e]
      · intro k v y hy hk hI
        obtain ⟨hp,y0,y9⟩:=hm y (List.mem_of_getElem? hy)
        refine ⟨?_,?_⟩
        · simp only [lt_dec hk,cond_true,idx_nat,hy,Option.bind_some,i_balOf hN hp y0 y9,i_balOf hN hp hI.2.1 hI.2.2,wrap1 (Nat.lt_trans hk hl)]
          unfold better
          cases decide ((balAt p y).cpu≤(balAt p v).cpu) <;> rfl
        · unfold better
          split
          · exact ⟨hp,y0,y9⟩
          · exact hI
      · intro v
        simp only [ge_dec,cond_false]
def changeAt (p:DPart) (l:List DObj):DPart:=DPart.mk p.label p.own p.tree (DHeap.mk l p.heap.gc) p.taps p.next p.want p.spent p.press p.lost
def tilled (o:DObj) (t:Int):DObj:=DObj.mk o.gen o.kind o.box o.res t o.pages o.wait o.got o.ran o.mark o.links o.data o.queue
def killed (p:DPart) (now:Int):List DObj:=if decide (victim p now ≥ 0) then p.heap.arena.set (victim p now).toNat (tilled (nth p.heap.arena (victim p now)) (IntKind.i64.wrap (now - 1))) else p.heap.arena
def partKill (p:DPart) (now:Int):DPart:=if partOk p&&(inR now 1 1000000&&!decide (p.press<3)) then DPart.mk p.label p.own p.tree (DHeap.mk (killed p now) p.heap.gc) p.taps p.next p.want p.spent 0 p.lost else p
theorem i_PartKill {N:Nat} (hN:BIG≤N) {p:DPart} (hb:sz_DPart p<BIG) (now:Int):F_i_PartKill N p now=some (partKill p now):=by
  unfold F_i_PartKill partKill killed
  simp only [i_copyPart hN hb,i_PartOk hN hb,i_in,i_Victim hN hb,Option.bind_some,bOr]
  cases hp:partOk p
  · rfl
  cases inR now 1 1000000
  · rfl
  cases decide (p.press<3)
  · cases hv:decide (victim p now ≥ 0)
    · rfl
    · obtain ⟨_,v0,v9⟩:=threads_rng (victim_mem hv)
      simp only [Bool.not_true,Bool.or_self,cond_false,cond_true,((partOk_ar hp).at v0 v9).1,Option.bind_some,if_true]
      rfl
  · rfl
def goodP (l:List DObj) (now part h:Int):Bool:=(arenaOk l&&(hOk h&&(hPart h==part)))&&(((nth l (hSlot h)).kind != 0)&&(((nth l (hSlot h)).gen==hGen h)&&nth (reach l now) (hSlot h)))
def goodSlot (l:List DObj) (now part h:Int):Int:=bif goodP l now part h then hSlot h else -1
theorem hSlot_ok {h:Int} (q:hOk h=true):0≤hSlot h∧hSlot h≤9:=(hSlot_rng (h:=h) (by unfold hPart;rw [q,if_pos rfl];rw [hOk_iff] at q;omega)).2
theorem s_GoodSlot {N:Nat} (hN:BIG≤N) {l:List DObj} (hb:szL sz_DObj l<BIG) (hw:wA l) (now part h:Int):F_s_GoodSlot N l now part h=some (goodSlot l now part h):=by
  unfold F_s_GoodSlot goodSlot goodP
  simp only [s_ArenaOk hN hb hw,s_Reach hN hb hw,s_l8Handle,s_HandlePart,s_HandleSlot,s_HandleGen,Option.bind_some,bOr]
  cases ha:arenaOk l
  · rfl
  have har:=arenaOk_iff.1 ha
  have hl:=reach_len har now
  rw [show inR h 0 29999=hOk h from rfl]
  cases hh:hOk h
  · rfl
  obtain ⟨s0,s9⟩:=hSlot_ok hh
  simp only [bne,(har.at s0 s9).1,idx_ok (l:=reach l now) s0 (by omega),Option.bind_some]
  cases hPart h==part <;> cases (nth l (hSlot h)).kind==0 <;> cases (nth l (hSlot h)).gen==hGen h <;> cases nth (reach l now) (hSlot h) <;> rfl
def wakeP (p:DPart) (me now:Int) (o:DObj):Bool:=decide (o.wait > 0)&&decide (goodSlot p.heap.arena now me (IntKind.i64.wrap (o.wait - 1))<0)
def woken (o:DObj):DObj:=DObj.mk o.gen o.kind o.box o.res o.til o.pages 0 (-1) o.ran o.mark o.links o.data o.queue
def wakes (p:DPart) (me now:Int):List DObj:=p.heap.arena.map fun o=>if wakeP p me now o then woken o else o
theorem iter_map {α:Type} {body:List α×Int→Option ((List α×Int)⊕(List α×Int))} (x:List α) (f:α→α) {N:Nat} (hN:x.length<N)
    (hs:∀ (k:Nat) (t:List α) (y:α),t.length=x.length→t[k]?=some y→x[k]?=some y→k<x.length→body (t,(k:Int))=some (.inl (t.set k (f y),((k+1:Nat):Int))))
    (he:∀ t,t.length=x.length→body (t,(x.length:Int))=some (.inr (t,(x.length:Int)))):iter body N (x,0)=some (x.map f,(x.length:Int)):=by
  have key:∀ (r:List α) (d d':List α) (M:Nat),d'.length=d.length→x=d'++r→r.length<M→iter body M (d++r,(d.length:Int))=some (d++r.map f,(x.length:Int)):=by
    intro r
    induction r with
    | nil =>
      intro d d' M hd hx hM
      cases M with
      | zero=>simp at hM
      | succ M =>
        have e:d.length=x.length:=by rw [hx];simp [hd]
        unfold iter
        rw [List.append_nil,e,he d e];simp
    | cons y r ih =>
      intro d d' M hd hx hM
      cases M with
      | zero=>simp at hM
      | succ M =>
        have hlen:(d++y::r).length=x.length:=by rw [hx];simp [hd]
        unfold iter
        rw [hs d.length (d++y::r) y hlen (by rw [List.getElem?_append_right (Nat.le_refl _)];simp) (by rw [hx,List.getElem?_append_right (by omega)];simp [hd]) (by rw [← hlen];simp)]
        have e:(d++y::r).set d.length (f y)=(d++[f y])++r:=by rw [List.set_append_right _ _ (Nat.le_refl _)];simp
        have e2:d.length+1=(d++[f y]).length:=by simp
        simp only [Option.bind_some,e]
        rw [e2,ih (d++[f y]) (d'++[y]) M (by simp [hd]) (by rw [hx];simp) (by simp at hM;omega)]
        simp
  exact key x [] [] N rfl rfl hN
theorem set_get {α:Type} {l:List α} {k:Nat} {y:α} (h:l[k]?=some y):l.set k y=l:=by
  apply List.ext_getElem? fun i=>?_
  rw [List.getElem?_set]
  split
  · rename_i e
    subst e
    rw [if_pos (lt_of_some h),h]
  · rfl
theorem sumL_map {f:DObj→Nat} {g:DObj→DObj} (h:∀ o,f (g o)=f o):∀ l:List DObj,sumL f (l.map g)=sumL f l
  | []=>rfl
  | o::l=>by simp only [List.map_cons,sumL,h,sumL_map h l]
theorem szL_map {f:DObj→Nat} {g:DObj→DObj} (h:∀ o,f (g o)=f o) (l:List DObj):szL f (l.map g)=szL f l:=by
  unfold szL;rw [sumL_map h,List.length_map]
theorem kill_sz (p:DPart) (now:Int):sz_DPart (partKill p now)≤sz_DPart p+100:=by
  unfold partKill
  split
  · rename_i h
    simp only [Bool.and_eq_true] at h
    have hsz:szL sz_DObj (killed p now)≤szL sz_DObj p.heap.arena+12:=by
      unfold killed
      split
      · rename_i hv
        obtain ⟨_,v0,v9⟩:=threads_rng (victim_mem hv)
        have:=objOk_sz ((partOk_ar h.1).ok _ ((partOk_ar h.1).at v0 v9).2)
        exact Nat.le_trans szL_set (Nat.add_le_add_left this _)
      · omega
    unfold sz_DPart sz_DHeap
    simp only
    omega
  · omega
end Go.Kx
