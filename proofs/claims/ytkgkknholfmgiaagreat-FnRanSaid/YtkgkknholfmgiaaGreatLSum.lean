/- Plain laws: sums; what a right world is. No program in sight. -/
import Derived.Test.YtkgkknholfmgiaaGreatLReach
import Derived.Test.YtkgkknholfmgiaaGreatLPut
namespace Go.Kx
open Go
set_option linter.unusedVariables false
set_option linter.unusedSimpArgs false
set_option maxRecDepth 10000
def NA (a:DAmt):Prop:=IntKind.i64.wrap a.pages=a.pages∧IntKind.i64.wrap a.rent=a.rent∧IntKind.i64.wrap a.cpu=a.cpu
theorem wrap_wrap (n:Int):IntKind.i64.wrap (IntKind.i64.wrap n)=IntKind.i64.wrap n:=by
  have:-9223372036854775808≤IntKind.i64.wrap n∧IntKind.i64.wrap n≤9223372036854775807:=by
    simp only [IntKind.wrap,IntKind.signed,IntKind.bits];simp;omega
  exact wrap_ok this.1 this.2
theorem NA.sum (a b:DAmt):NA (amtSum a b):=⟨wrap_wrap _,wrap_wrap _,wrap_wrap _⟩
theorem NA.zero:NA ⟨0,0,0⟩:=⟨by decide,by decide,by decide⟩
def treeSum (t:List DRes):DAmt:=if treeOk t then sumLive ⟨0,0,0⟩ t else ⟨0,0,0⟩
theorem s_TreeSum {N:Nat} (hN:BIG≤N) {t:List DRes} (hB:t.length<BIG):F_s_TreeSum N t=some (treeSum t):=by
  unfold F_s_TreeSum treeSum
  rw [s_TreeOk hN,Option.bind_some,s_l6Sum hN hB]
  cases treeOk t <;> rfl
structure Tr (t:List DRes):Prop where
  len:t.length=5
  live0:(nth t 0).live=true
  par0:(nth t 0).parent=-1
  dead:∀ r,r ∈ t→r.live=false→r=zRes
  bal:∀ r,r ∈ t→amtOk r.bal=true
  lead:∀ (k:Nat) (r:DRes),t[k]?=some r→r.live=true→leads t 5 (k:Int)=true
  sum:amtOk (sumLive ⟨0,0,0⟩ t)=true
theorem zRes_bal:amtOk zRes.bal=true:=by decide
theorem treeOk_iff {t:List DRes}:treeOk t=true ↔ Tr t:=by
  unfold treeOk
  simp only [Bool.and_eq_true,Bool.not_eq_true',bne_eq_false_iff_eq,allI_iff,Nat.zero_add]
  constructor
  · rintro ⟨h1,h2,h3,h4,h5⟩
    have hm:∀ r,r ∈ t→∃ k:Nat,t[k]?=some r:=fun o ho=>List.getElem?_of_mem ho
    refine ⟨by omega,h2,h3,fun r hr hl=>?_,fun r hr=>?_,fun k r hk hl=>?_,h5⟩
    · obtain ⟨k,hk⟩:=hm r hr
      have:=h4 k r hk
      unfold treeP at this
      simpa [hl] using this
    · obtain ⟨k,hk⟩:=hm r hr
      have:=h4 k r hk
      unfold treeP at this
      split at this
      · simp only [Bool.and_eq_true] at this;exact this.1
      · simp only [decide_eq_true_eq] at this;rw [this];exact zRes_bal
    · have:=h4 k r hk
      unfold treeP at this
      rw [if_pos hl] at this
      simp only [Bool.and_eq_true] at this
      exact this.2
  · intro h
    refine ⟨by have:=h.len;omega,h.live0,h.par0,fun k r hr=>?_,h.sum⟩
    unfold treeP
    have hm:=List.mem_of_getElem? hr
    cases hl:r.live
    · simp [h.dead r hm hl]
    · simp [h.bal r hm,h.lead k r hr hl]
def held (p:DPart):Int:=((p.heap.arena.take 10).filter objOk).foldl (fun n o=>IntKind.i64.wrap (n+o.pages)) 0
theorem foldl_filter {α β:Type} (p:α→Bool) (g:β→α→β):∀ (l:List α) (b:β),(l.filter p).foldl g b=l.foldl (fun b y=>if p y then g b y else b) b
  | [],_=>rfl
  | y::l,b=>by
    rw [List.filter_cons,List.foldl_cons]
    cases h:p y
    · simp [foldl_filter p g l]
    · simp [foldl_filter p g l]
theorem s_Held {N:Nat} (hN:BIG≤N) {p:DPart} (hb:sz_DPart p<BIG) (hw:wP p):F_s_Held N p=some (held p):=by
  have h4:=(szPart hb).2.2.2.1
  have hl:=szL_len h4
  have hN':16777216≤N:=hN
  unfold F_s_Held held
  rw [foldl_filter,show ((0:Int),(0:Int))=(fun (k:Nat) (n:Int)=>(n,(k:Int))) 0 0 from rfl,
    iter_fold (p.heap.arena.take 10) (fun (k:Nat) (n:Int)=>(n,(k:Int))) (fun _ n o=>if objOk o then IntKind.i64.wrap (n+o.pages) else n) (fun n=>(n,(((p.heap.arena.take 10).length:Nat):Int))) (fun _ _=>True) ?_ ?_ (by simp;omega) trivial,foldI_const]
  · rfl
  · intro k n y hy hk _
    have hk2:k<10∧k<p.heap.arena.length:=by simp at hk;omega
    rw [List.getElem?_take_of_lt hk2.1] at hy
    have hm:=List.mem_of_getElem? hy
    have h3:decide ((k:Int)<10)=true:=by simp;omega
    refine ⟨?_,trivial⟩
    simp only [lt_dec hk2.2,h3,cond_true,idx_nat,hy,Option.bind_some,s_ObjOk hN (szL_mem h4 hm) (hw y hm),wrap1 (show k<BIG from Nat.lt_trans hk2.1 (by decide))]
    cases objOk y <;> rfl
  · intro n _
    simp only [List.length_take]
    rcases Nat.lt_or_ge 10 p.heap.arena.length with h | h
    · have e:min 10 p.heap.arena.length=10:=by omega
      have h3:decide (((10:Nat):Int)<(p.heap.arena.length:Int))=true:=by simp;omega
      simp only [e,h3,cond_true];rfl
    · have e:min 10 p.heap.arena.length=p.heap.arena.length:=by omega
      simp only [e,ge_dec,cond_false,Option.bind_some]
def partSum (p:DPart):DAmt:=if amtOk p.spent then amtSum ⟨IntKind.i64.wrap ((treeSum p.tree).pages+held p),(treeSum p.tree).rent,(treeSum p.tree).cpu⟩ p.spent else treeSum p.tree
theorem s_PartSum {N:Nat} (hN:BIG≤N) {p:DPart} (hb:sz_DPart p<BIG) (hw:wP p):F_s_PartSum N p=some (partSum p):=by
  unfold F_s_PartSum partSum
  simp only [s_TreeSum hN (szPart hb).2.2.1,s_AmtOk,s_Held hN hb hw,Option.bind_some]
  cases amtOk p.spent <;> rfl
end Go.Kx
/- Plain laws: handles. No program in sight. -/
namespace Go.Kx
open Go
set_option linter.unusedVariables false
set_option linter.unusedSimpArgs false
set_option maxRecDepth 10000
def hOk (h:Int):Bool:=inR h 0 29999
def hPart (h:Int):Int:=if hOk h then h % 3 else -1
def hSlot (h:Int):Int:=if hOk h then h / 3 % 10 else -1
def hGen (h:Int):Int:=if hOk h then h / 3 / 10 else -1
theorem hOk_iff {h:Int}:hOk h=true ↔ 0≤h∧h≤29999:=inR_iff
theorem hdiv {h:Int} (q:hOk h=true):IntKind.i64.wrap (Int.tdiv h 3)=h / 3∧Int.tmod h 3=h % 3∧Int.tmod (h / 3) 10=h / 3 % 10∧IntKind.i64.wrap (Int.tdiv (h / 3) 10)=h / 3 / 10:=by
  rw [hOk_iff] at q
  have h3:0≤h / 3:=by omega
  refine ⟨?_,Int.tmod_eq_emod_of_nonneg q.1,Int.tmod_eq_emod_of_nonneg h3,?_⟩
  · rw [Int.tdiv_eq_ediv_of_nonneg q.1,wrap_ok (by omega) (by omega)]
  · rw [Int.tdiv_eq_ediv_of_nonneg h3,wrap_ok (by omega) (by omega)]
theorem i_HandlePart (N:Nat) (h:Int):F_i_HandlePart N h=some (hPart h):=by
  unfold F_i_HandlePart hPart
  rw [i_isHandle,Option.bind_some]
  cases q:inR h 0 29999
  · simp [hOk,q]
  · simp [hOk,q,(hdiv (h:=h) q).2.1]
theorem s_HandlePart (N:Nat) (h:Int):F_s_HandlePart N h=some (hPart h):=by
  unfold F_s_HandlePart hPart
  rw [s_l8Handle,Option.bind_some]
  cases q:inR h 0 29999
  · simp [hOk,q]
  · simp [hOk,q,(hdiv (h:=h) q).2.1]
theorem i_HandleSlot (N:Nat) (h:Int):F_i_HandleSlot N h=some (hSlot h):=by
  unfold F_i_HandleSlot hSlot
  rw [i_isHandle,Option.bind_some]
  cases q:inR h 0 29999
  · simp [hOk,q]
  · simp [hOk,q,(hdiv (h:=h) q).1,(hdiv (h:=h) q).2.2.1]
theorem s_HandleSlot (N:Nat) (h:Int):F_s_HandleSlot N h=some (hSlot h):=by
  unfold F_s_HandleSlot hSlot
  rw [s_l8Handle,Option.bind_some]
  cases q:inR h 0 29999
  · simp [hOk,q]
  · simp [hOk,q,(hdiv (h:=h) q).1,(hdiv (h:=h) q).2.2.1]
theorem i_HandleGen (N:Nat) (h:Int):F_i_HandleGen N h=some (hGen h):=by
  unfold F_i_HandleGen hGen
  rw [i_isHandle,Option.bind_some]
  cases q:inR h 0 29999
  · simp [hOk,q]
  · simp [hOk,q,(hdiv (h:=h) q).1,(hdiv (h:=h) q).2.2.2]
theorem s_HandleGen (N:Nat) (h:Int):F_s_HandleGen N h=some (hGen h):=by
  unfold F_s_HandleGen hGen
  rw [s_l8Handle,Option.bind_some]
  cases q:inR h 0 29999
  · simp [hOk,q]
  · simp [hOk,q,(hdiv (h:=h) q).1,(hdiv (h:=h) q).2.2.2]
def handleOf (p i g:Int):Int:=if inR p 0 2&&(inR i 0 9&&inR g 0 999) then IntKind.i64.wrap ((IntKind.i64.wrap ((IntKind.i64.wrap ((IntKind.i64.wrap (g * 10))+i)) * 3))+p) else -1
theorem s_HandleOf (N:Nat) (p i g:Int):F_s_HandleOf N p i g=some (handleOf p i g):=by
  unfold F_s_HandleOf handleOf
  simp only [s_l8Slot,s_in,Option.bind_some,bOr]
  cases inR p 0 2 <;> cases inR i 0 9 <;> cases inR g 0 999 <;> rfl
theorem hSlot_rng {h:Int} (q:0≤hPart h):hOk h=true∧0≤hSlot h∧hSlot h≤9:=by
  unfold hPart at q
  unfold hSlot
  cases hk:hOk h
  · simp [hk] at q
  · rw [hOk_iff] at hk
    simp only [if_true]
    exact ⟨trivial,by omega,by omega⟩
end Go.Kx
/- Plain laws: what may run; what is safe to collect. No program in sight. -/
namespace Go.Kx
open Go
set_option linter.unusedVariables false
set_option linter.unusedSimpArgs false
set_option maxRecDepth 10000
theorem treeLen {t:List DRes} (h:treeOk t=true):t.length=5:=(treeOk_iff.1 h).len
def resOf (p:DPart) (i:Int):Int:=if treeOk p.tree&&liveAt p.tree i then i else 0
theorem liveAt_rng {t:List DRes} {i:Int} (h:liveAt t i=true):0≤i∧i≤4:=by
  unfold liveAt at h
  simp only [Bool.and_eq_true,inR_iff] at h
  exact h.1
theorem resOf_rng (p:DPart) (i:Int):0≤resOf p i∧resOf p i≤4:=by
  unfold resOf
  split
  · rename_i h
    simp only [Bool.and_eq_true] at h
    exact liveAt_rng h.2
  · omega
theorem i_ResOf {N:Nat} (hN:BIG≤N) (p:DPart) (i:Int):F_i_ResOf N p i=some (resOf p i):=by
  unfold F_i_ResOf resOf
  rw [i_TreeOk hN,Option.bind_some]
  cases h:treeOk p.tree
  · rfl
  · simp only [Bool.not_true,cond_false,i_isLive N (treeLen h),Option.bind_some,Bool.true_and]
    cases liveAt p.tree i <;> rfl
theorem s_l6Live {N:Nat} (hN:BIG≤N) (t:List DRes) (i:Int):F_s_l6Live N t i=some (treeOk t&&liveAt t i):=by
  unfold F_s_l6Live liveAt
  simp only [s_TreeOk hN,s_l6Res,Option.bind_some]
  cases h:treeOk t
  · rfl
  have hl:=treeLen h
  cases hi:inR i 0 4
  · rfl
  · simp only [cond_true,idx_in hi (by omega) (show (4:Int)<(t.length:Int) by omega),Option.bind_some,Bool.true_and]
theorem s_ResOf {N:Nat} (hN:BIG≤N) (p:DPart) (i:Int):F_s_ResOf N p i=some (resOf p i):=by
  unfold F_s_ResOf resOf
  rw [s_l6Live hN,Option.bind_some]
  cases (treeOk p.tree&&liveAt p.tree i) <;> rfl
theorem partOk_tree {p:DPart} (h:partOk p=true):treeOk p.tree=true:=by
  unfold partOk at h
  simp only [Bool.and_eq_true] at h
  exact h.2.2.1
theorem treeIdx {p:DPart} (h:partOk p=true) {i:Int} (h0:0≤i) (h4:i≤4):idx p.tree i=some (nth p.tree i):=idx_ok h0 (by have:=treeLen (partOk_tree h);omega)
def balAt (p:DPart) (i:Int):DAmt:=(nth p.tree (resOf p (nth p.heap.arena i).res)).bal
theorem i_balOf {N:Nat} (hN:BIG≤N) {p:DPart} (h:partOk p=true) {i:Int} (h0:0≤i) (h9:i≤9):F_i_balOf N p i=some (balAt p i):=by
  unfold F_i_balOf balAt
  obtain ⟨r0,r4⟩:=resOf_rng p (nth p.heap.arena i).res
  simp only [((partOk_ar h).at h0 h9).1,Option.bind_some,i_ResOf hN,treeIdx h r0 r4]
def mayRun (p:DPart) (i:Int):Bool:=((nth p.heap.arena i).wait==0)&&decide ((balAt p i).cpu > 0)
def runnable (p:DPart) (now:Int):List Int:=(threads p now).filter (mayRun p)
theorem runnable_len (p:DPart) (now:Int):(runnable p now).length≤10:=by
  unfold runnable
  refine Nat.le_trans (List.length_filter_le _ _) ?_
  unfold threads
  split
  · rename_i hp
    refine Nat.le_trans (collI_len _ _ _ _) ?_
    rw [reach_len (partOk_ar hp)];exact Nat.le_refl _
  · exact Nat.zero_le _
theorem i_Runnable {N:Nat} (hN:BIG≤N) {p:DPart} (hb:sz_DPart p<BIG) (now:Int):F_i_Runnable N p now=some (runnable p now):=by
  have hl:=threads_len p now
  unfold F_i_Runnable runnable
  rw [i_Threads hN hb,Option.bind_some,iter_coll (threads p now) (fun _ i=>mayRun p i) (fun _ y=>y) hl hN,collI_filter]
  · rfl
  · intro k t y hy hk ht
    obtain ⟨hp,y0,y9⟩:=threads_rng (List.mem_of_getElem? hy)
    simp only [lt_dec hk,cond_true,idx_nat,hy,Option.bind_some,((partOk_ar hp).at y0 y9).1,i_balOf hN hp y0 y9,bAnd,wrap1 (Nat.lt_trans hk hl),app1 ht (Nat.lt_of_le_of_lt hk hl)]
    show (bif mayRun p y then _ else _)=_
    cases mayRun p y <;> rfl
  · intro t
    simp only [ge_dec,cond_false]
theorem s_Runnable {N:Nat} (hN:BIG≤N) {p:DPart} (hb:sz_DPart p<BIG) (hw:wP p) (now:Int):F_s_Runnable N p now=some (runnable p now):=by
  have hl:=threads_len p now
  unfold F_s_Runnable runnable
  rw [s_Threads hN hb hw,Option.bind_some,iter_coll (threads p now) (fun _ i=>mayRun p i) (fun _ y=>y) hl hN,collI_filter]
  · rfl
  · intro k t y hy hk ht
    obtain ⟨hp,y0,y9⟩:=threads_rng (List.mem_of_getElem? hy)
    obtain ⟨r0,r4⟩:=resOf_rng p (nth p.heap.arena y).res
    simp only [lt_dec hk,cond_true,idx_nat,hy,Option.bind_some,((partOk_ar hp).at y0 y9).1,s_ResOf hN,treeIdx hp r0 r4,bAnd,wrap1 (Nat.lt_trans hk hl),app1 ht (Nat.lt_of_le_of_lt hk hl)]
    show (bif mayRun p y then _ else _)=_
    cases mayRun p y <;> rfl
  · intro t
    simp only [ge_dec,cond_false]
end Go.Kx
/- Plain laws: who is killed, who wakes. No program in sight. -/
namespace Go.Kx
open Go
set_option linter.unusedVariables false
set_option linter.unusedSimpArgs false
set_option maxRecDepth 10000
def better (p:DPart) (v i:Int):Int:=if decide ((balAt p i).cpu≤(balAt p v).cpu) then i else v
def victim (p:DPart) (now:Int):Int:=match threads p now with
  | a::b::l=>(b::l).foldl (better p) a
  | _=>-1
theorem threads_at {p:DPart} {now y:Int} (h:y ∈ threads p now):partOk p=true∧0≤y∧y≤9:=threads_rng h
def changeAt (p:DPart) (l:List DObj):DPart:=DPart.mk p.label p.own p.tree (DHeap.mk l p.heap.gc) p.taps p.next p.want p.spent p.press p.lost
def tilled (o:DObj) (t:Int):DObj:=DObj.mk o.gen o.kind o.box o.res t o.pages o.wait o.got o.ran o.mark o.links o.data o.queue
def killed (p:DPart) (now:Int):List DObj:=if decide (victim p now ≥ 0) then p.heap.arena.set (victim p now).toNat (tilled (nth p.heap.arena (victim p now)) (IntKind.i64.wrap (now - 1))) else p.heap.arena
def goodP (l:List DObj) (now part h:Int):Bool:=(arenaOk l&&(hOk h&&(hPart h==part)))&&(((nth l (hSlot h)).kind != 0)&&(((nth l (hSlot h)).gen==hGen h)&&nth (reach l now) (hSlot h)))
def goodSlot (l:List DObj) (now part h:Int):Int:=bif goodP l now part h then hSlot h else -1
theorem hSlot_ok {h:Int} (q:hOk h=true):0≤hSlot h∧hSlot h≤9:=(hSlot_rng (h:=h) (by unfold hPart;rw [q,if_pos rfl];rw [hOk_iff] at q;omega)).2
theorem i_GoodSlot {N:Nat} (hN:BIG≤N) {l:List DObj} (hb:szL sz_DObj l<BIG) (now part h:Int):F_i_GoodSlot N l now part h=some (goodSlot l now part h):=by
  unfold F_i_GoodSlot goodSlot goodP
  simp only [i_Reach hN hb,i_isHandle,i_HandlePart,i_HandleSlot,i_HandleGen,Option.bind_some,bOr]
  cases ha:arenaOk l
  · have e:reach l now=[]:=by unfold reach;rw [ha];rfl
    rw [e];rfl
  have har:=arenaOk_iff.1 ha
  have hl:=reach_len har now
  rw [show (((reach l now).length:Int)==0)=false by rw [hl];rfl,show inR h 0 29999=hOk h from rfl]
  cases hh:hOk h
  · rfl
  obtain ⟨s0,s9⟩:=hSlot_ok hh
  simp only [bne,(har.at s0 s9).1,idx_ok (l:=reach l now) s0 (by omega),Option.bind_some]
  cases hPart h==part <;> cases (nth l (hSlot h)).kind==0 <;> cases (nth l (hSlot h)).gen==hGen h <;> cases nth (reach l now) (hSlot h) <;> rfl
theorem s_GoodSlot {N:Nat} (hN:BIG≤N) {l:List DObj} (hb:szL sz_DObj l<BIG) (hw:wA l) (now part h:Int):F_s_GoodSlot N l now part h=some (goodSlot l now part h):=by
  unfold F_s_GoodSlot goodSlot goodP
  simp only [s_ArenaOk hN hb hw,s_Reach hN hb hw,s_l8Handle,s_HandlePart,s_HandleSlot,s_HandleGen,Option.bind_some,bOr]
  cases ha:arenaOk l
  · rfl
  have har:=arenaOk_iff.1 ha
  have hl:=reach_len har now
  rw [show inR h 0 29999=hOk h from rfl]
  cases hh:hOk h
  · rfl
  obtain ⟨s0,s9⟩:=hSlot_ok hh
  simp only [bne,(har.at s0 s9).1,idx_ok (l:=reach l now) s0 (by omega),Option.bind_some]
  cases hPart h==part <;> cases (nth l (hSlot h)).kind==0 <;> cases (nth l (hSlot h)).gen==hGen h <;> cases nth (reach l now) (hSlot h) <;> rfl
def wakeP (p:DPart) (me now:Int) (o:DObj):Bool:=decide (o.wait > 0)&&decide (goodSlot p.heap.arena now me (IntKind.i64.wrap (o.wait - 1))<0)
def woken (o:DObj):DObj:=DObj.mk o.gen o.kind o.box o.res o.til o.pages 0 (-1) o.ran o.mark o.links o.data o.queue
def wakes (p:DPart) (me now:Int):List DObj:=p.heap.arena.map fun o=>if wakeP p me now o then woken o else o
def partWake (p:DPart) (me now:Int):DPart:=if partOk p&&inR me 0 2 then changeAt p (wakes p me now) else p
theorem iter_map {α:Type} {body:List α×Int→Option ((List α×Int)⊕(List α×Int))} (x:List α) (f:α→α) {N:Nat} (hN:x.length<N)
    (hs:∀ (k:Nat) (t:List α) (y:α),t.length=x.length→t[k]?=some y→x[k]?=some y→k<x.length→body (t,(k:Int))=some (.inl (t.set k (f y),((k+1:Nat):Int))))
    (he:∀ t,t.length=x.length→body (t,(x.length:Int))=some (.inr (t,(x.length:Int)))):iter body N (x,0)=some (x.map f,(x.length:Int)):=by
  have key:∀ (r:List α) (d d':List α) (M:Nat),d'.length=d.length→x=d'++r→r.length<M→iter body M (d++r,(d.length:Int))=some (d++r.map f,(x.length:Int)):=by
    intro r
    induction r with
    | nil =>
      intro d d' M hd hx hM
      cases M with
      | zero=>simp at hM
      | succ M =>
        have e:d.length=x.length:=by rw [hx];simp [hd]
        unfold iter
        rw [List.append_nil,e,he d e];simp
    | cons y r ih =>
      intro d d' M hd hx hM
      cases M with
      | zero=>simp at hM
      | succ M =>
        have hlen:(d++y::r).length=x.length:=by rw [hx];simp [hd]
        unfold iter
        rw [hs d.length (d++y::r) y hlen (by rw [List.getElem?_append_right (Nat.le_refl _)];simp) (by rw [hx,List.getElem?_append_right (by omega)];simp [hd]) (by rw [← hlen];simp)]
        have e:(d++y::r).set d.length (f y)=(d++[f y])++r:=by rw [List.set_append_right _ _ (Nat.le_refl _)];simp
        have e2:d.length+1=(d++[f y]).length:=by simp
        simp only [Option.bind_some,e]
        rw [e2,ih (d++[f y]) (d'++[y]) M (by simp [hd]) (by rw [hx];simp) (by simp at hM;omega)]
        simp
  exact key x [] [] N rfl rfl hN
theorem set_get {α:Type} {l:List α} {k:Nat} {y:α} (h:l[k]?=some y):l.set k y=l:=by
  apply List.ext_getElem? fun i=>?_
  rw [List.getElem?_set]
  split
  · rename_i e
    subst e
    rw [if_pos (lt_of_some h),h]
  · rfl
theorem i_PartWake {N:Nat} (hN:BIG≤N) {p:DPart} (hb:sz_DPart p<BIG) (me now:Int):F_i_PartWake N p me now=some (partWake p me now):=by
  have h4:=(szPart hb).2.2.2.1
  have hl:=szL_len h4
  unfold F_i_PartWake partWake wakes changeAt
  simp only [i_copyPart hN hb,i_PartOk hN hb,i_isPart,Option.bind_some,bOr]
  cases hp:partOk p
  · rfl
  cases inR me 0 2
  · rfl
  simp only [Bool.not_true,Bool.or_self,cond_false,Bool.and_self,if_true]
  rw [iter_map p.heap.arena (fun o=>if wakeP p me now o then woken o else o) (Nat.lt_of_lt_of_le hl hN)]
  · rfl
  · intro k t y ht hty hy hk
    simp only [lt_dec hk,cond_true,idx_nat,hy,hty,Option.bind_some,i_GoodSlot hN h4,bAnd,wrap1 (Nat.lt_trans hk hl),Int.toNat_natCast,List.getElem?_set_self (show k<t.length by omega),List.set_set]
    rw [show (decide (y.wait > 0)&&decide (goodSlot p.heap.arena now me (IntKind.i64.wrap (y.wait - 1))<0))=wakeP p me now y from rfl]
    cases wakeP p me now y
    · simp [set_get hty]
    · rfl
  · intro t ht
    simp only [ge_dec,cond_false]
theorem sumL_map {f:DObj→Nat} {g:DObj→DObj} (h:∀ o,f (g o)=f o):∀ l:List DObj,sumL f (l.map g)=sumL f l
  | []=>rfl
  | o::l=>by simp only [List.map_cons,sumL,h,sumL_map h l]
theorem szL_map {f:DObj→Nat} {g:DObj→DObj} (h:∀ o,f (g o)=f o) (l:List DObj):szL f (l.map g)=szL f l:=by
  unfold szL;rw [sumL_map h,List.length_map]
theorem wake_sz (p:DPart) (me now:Int):sz_DPart (partWake p me now)=sz_DPart p:=by
  unfold partWake
  split
  · unfold sz_DPart changeAt sz_DHeap wakes
    simp only
    rw [szL_map fun o=>by split <;> rfl]
  · rfl
end Go.Kx
