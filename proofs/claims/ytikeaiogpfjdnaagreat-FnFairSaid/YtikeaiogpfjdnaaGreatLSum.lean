/- Plain laws: sums; what a right world is. No program in sight. -/
import Derived.Test.YtikeaiogpfjdnaaGreatLReach
namespace Go.Kx
open Go
set_option linter.unusedVariables false
set_option linter.unusedSimpArgs false
set_option maxRecDepth 10000
def NA (a:DAmt):Prop:=IntKind.i64.wrap a.pages=a.pages∧IntKind.i64.wrap a.rent=a.rent∧IntKind.i64.wrap a.cpu=a.cpu
theorem wrap_wrap (n:Int):IntKind.i64.wrap (IntKind.i64.wrap n)=IntKind.i64.wrap n:=by
  have:-9223372036854775808≤IntKind.i64.wrap n∧IntKind.i64.wrap n≤9223372036854775807:=by
    simp only [IntKind.wrap,IntKind.signed,IntKind.bits];simp;omega
  exact wrap_ok this.1 this.2
theorem NA.sum (a b:DAmt):NA (amtSum a b):=⟨wrap_wrap _,wrap_wrap _,wrap_wrap _⟩
theorem NA.zero:NA ⟨0,0,0⟩:=⟨by decide,by decide,by decide⟩
def treeSum (t:List DRes):DAmt:=if treeOk t then sumLive ⟨0,0,0⟩ t else ⟨0,0,0⟩
theorem s_TreeSum {N:Nat} (hN:BIG≤N) {t:List DRes} (hB:t.length<BIG):F_s_TreeSum N t=some (treeSum t):=by
  unfold F_s_TreeSum treeSum
  rw [s_TreeOk hN,Option.bind_some,s_l6Sum hN hB]
  cases treeOk t <;> rfl
structure Tr (t:List DRes):Prop where
  len:t.length=5
  live0:(nth t 0).live=true
  par0:(nth t 0).parent=-1
  dead:∀ r,r ∈ t→r.live=false→r=zRes
  bal:∀ r,r ∈ t→amtOk r.bal=true
  lead:∀ (k:Nat) (r:DRes),t[k]?=some r→r.live=true→leads t 5 (k:Int)=true
  sum:amtOk (sumLive ⟨0,0,0⟩ t)=true
theorem zRes_bal:amtOk zRes.bal=true:=by decide
theorem treeOk_iff {t:List DRes}:treeOk t=true ↔ Tr t:=by
  unfold treeOk
  simp only [Bool.and_eq_true,Bool.not_eq_true',bne_eq_false_iff_eq,allI_iff,Nat.zero_add]
  constructor
  · rintro ⟨h1,h2,h3,h4,h5⟩
    have hm:∀ r,r ∈ t→∃ k:Nat,t[k]?=some r:=fun o ho=>List.getElem?_of_mem ho
    refine ⟨by omega,h2,h3,fun r hr hl=>?_,fun r hr=>?_,fun k r hk hl=>?_,h5⟩
    · obtain ⟨k,hk⟩:=hm r hr
      have:=h4 k r hk
      unfold treeP at this
      simpa [hl] using this
    · obtain ⟨k,hk⟩:=hm r hr
      have:=h4 k r hk
      unfold treeP at this
      split at this
      · simp only [Bool.and_eq_true] at this;exact this.1
      · simp only [decide_eq_true_eq] at this;rw [this];exact zRes_bal
    · have:=h4 k r hk
      unfold treeP at this
      rw [if_pos hl] at this
      simp only [Bool.and_eq_true] at this
      exact this.2
  · intro h
    refine ⟨by have:=h.len;omega,h.live0,h.par0,fun k r hr=>?_,h.sum⟩
    unfold treeP
    have hm:=List.mem_of_getElem? hr
    cases hl:r.live
    · simp [h.dead r hm hl]
    · simp [h.bal r hm,h.lead k r hr hl]
def held (p:DPart):Int:=((p.heap.arena.take 10).filter objOk).foldl (fun n o=>IntKind.i64.wrap (n+o.pages)) 0
theorem foldl_filter {α β:Type} (p:α→Bool) (g:β→α→β):∀ (l:List α) (b:β),(l.filter p).foldl g b=l.foldl (fun b y=>if p y then g b y else b) b
  | [],_=>rfl
  | y::l,b=>by
    rw [List.filter_cons,List.foldl_cons]
    cases h:p y
    · simp [foldl_filter p g l]
    · simp [foldl_filter p g l]
theorem s_Held {N:Nat} (hN:BIG≤N) {p:DPart} (hb:sz_DPart p<BIG) (hw:wP p):F_s_Held N p=some (held p):=by
  have h4:=(szPart hb).2.2.2.1
  have hl:=szL_len h4
  have hN':16777216≤N:=hN
  unfold F_s_Held held
  rw [foldl_filter,show ((0:Int),(0:Int))=(fun (k:Nat) (n:Int)=>(n,(k:Int))) 0 0 from rfl,
    iter_fold (p.heap.arena.take 10) (fun (k:Nat) (n:Int)=>(n,(k:Int))) (fun _ n o=>if objOk o then IntKind.i64.wrap (n+o.pages) else n) (fun n=>(n,(((p.heap.arena.take 10).length:Nat):Int))) (fun _ _=>True) ?_ ?_ (by simp;omega) trivial,foldI_const]
  · rfl
  · intro k n y hy hk _
    have hk2:k<10∧k<p.heap.arena.length:=by simp at hk;omega
    rw [List.getElem?_take_of_lt hk2.1] at hy
    have hm:=List.mem_of_getElem? hy
    have h3:decide ((k:Int)<10)=true:=by simp;omega
    refine ⟨?_,trivial⟩
    simp only [lt_dec hk2.2,h3,cond_true,idx_nat,hy,Option.bind_some,s_ObjOk hN (szL_mem h4 hm) (hw y hm),wrap1 (show k<BIG from Nat.lt_trans hk2.1 (by decide))]
    cases objOk y <;> rfl
  · intro n _
    simp only [List.length_take]
    rcases Nat.lt_or_ge 10 p.heap.arena.length with h | h
    · have e:min 10 p.heap.arena.length=10:=by omega
      have h3:decide (((10:Nat):Int)<(p.heap.arena.length:Int))=true:=by simp;omega
      simp only [e,h3,cond_true];rfl
    · have e:min 10 p.heap.arena.length=p.heap.arena.length:=by omega
      simp only [e,ge_dec,cond_false,Option.bind_some]
def partSum (p:DPart):DAmt:=if amtOk p.spent then amtSum ⟨IntKind.i64.wrap ((treeSum p.tree).pages+held p),(treeSum p.tree).rent,(treeSum p.tree).cpu⟩ p.spent else treeSum p.tree
theorem s_PartSum {N:Nat} (hN:BIG≤N) {p:DPart} (hb:sz_DPart p<BIG) (hw:wP p):F_s_PartSum N p=some (partSum p):=by
  unfold F_s_PartSum partSum
  simp only [s_TreeSum hN (szPart hb).2.2.1,s_AmtOk,s_Held hN hb hw,Option.bind_some]
  cases amtOk p.spent <;> rfl
def partsSum (s:DAmt) (l:List DPart):DAmt:=l.foldl (fun s p=>amtSum s (partSum p)) s
def worldOk (w:DWorld):Bool:=inR w.now 0 1000000&&(inR (w.parts.length:Int) 1 3&&(w.parts.all partOk&&amtOk (partsSum ⟨0,0,0⟩ w.parts)))
def wW (l:List DPart):Prop:=∀ p,p ∈ l→wP p
end Go.Kx
/- Plain laws: handles. No program in sight. -/
namespace Go.Kx
open Go
set_option linter.unusedVariables false
set_option linter.unusedSimpArgs false
set_option maxRecDepth 10000
def hOk (h:Int):Bool:=inR h 0 29999
def hPart (h:Int):Int:=if hOk h then h % 3 else -1
def hSlot (h:Int):Int:=if hOk h then h / 3 % 10 else -1
def hGen (h:Int):Int:=if hOk h then h / 3 / 10 else -1
theorem hOk_iff {h:Int}:hOk h=true ↔ 0≤h∧h≤29999:=inR_iff
theorem hdiv {h:Int} (q:hOk h=true):IntKind.i64.wrap (Int.tdiv h 3)=h / 3∧Int.tmod h 3=h % 3∧Int.tmod (h / 3) 10=h / 3 % 10∧IntKind.i64.wrap (Int.tdiv (h / 3) 10)=h / 3 / 10:=by
  rw [hOk_iff] at q
  have h3:0≤h / 3:=by omega
  refine ⟨?_,Int.tmod_eq_emod_of_nonneg q.1,Int.tmod_eq_emod_of_nonneg h3,?_⟩
  · rw [Int.tdiv_eq_ediv_of_nonneg q.1,wrap_ok (by omega) (by omega)]
  · rw [Int.tdiv_eq_ediv_of_nonneg h3,wrap_ok (by omega) (by omega)]
theorem s_HandlePart (N:Nat) (h:Int):F_s_HandlePart N h=some (hPart h):=by
  unfold F_s_HandlePart hPart
  rw [s_l8Handle,Option.bind_some]
  cases q:inR h 0 29999
  · simp [hOk,q]
  · simp [hOk,q,(hdiv (h:=h) q).2.1]
theorem s_HandleSlot (N:Nat) (h:Int):F_s_HandleSlot N h=some (hSlot h):=by
  unfold F_s_HandleSlot hSlot
  rw [s_l8Handle,Option.bind_some]
  cases q:inR h 0 29999
  · simp [hOk,q]
  · simp [hOk,q,(hdiv (h:=h) q).1,(hdiv (h:=h) q).2.2.1]
theorem s_HandleGen (N:Nat) (h:Int):F_s_HandleGen N h=some (hGen h):=by
  unfold F_s_HandleGen hGen
  rw [s_l8Handle,Option.bind_some]
  cases q:inR h 0 29999
  · simp [hOk,q]
  · simp [hOk,q,(hdiv (h:=h) q).1,(hdiv (h:=h) q).2.2.2]
def handleOf (p i g:Int):Int:=if inR p 0 2&&(inR i 0 9&&inR g 0 999) then IntKind.i64.wrap ((IntKind.i64.wrap ((IntKind.i64.wrap ((IntKind.i64.wrap (g * 10))+i)) * 3))+p) else -1
theorem s_HandleOf (N:Nat) (p i g:Int):F_s_HandleOf N p i g=some (handleOf p i g):=by
  unfold F_s_HandleOf handleOf
  simp only [s_l8Slot,s_in,Option.bind_some,bOr]
  cases inR p 0 2 <;> cases inR i 0 9 <;> cases inR g 0 999 <;> rfl
theorem hSlot_rng {h:Int} (q:0≤hPart h):hOk h=true∧0≤hSlot h∧hSlot h≤9:=by
  unfold hPart at q
  unfold hSlot
  cases hk:hOk h
  · simp [hk] at q
  · rw [hOk_iff] at hk
    simp only [if_true]
    exact ⟨trivial,by omega,by omega⟩
def hasPart (w:DWorld) (p:Int):Bool:=inR p 0 ((w.parts.length:Int) - 1)
end Go.Kx
/- Plain laws: what may run; what is safe to collect. No program in sight. -/
namespace Go.Kx
open Go
set_option linter.unusedVariables false
set_option linter.unusedSimpArgs false
set_option maxRecDepth 10000
theorem treeLen {t:List DRes} (h:treeOk t=true):t.length=5:=(treeOk_iff.1 h).len
def resOf (p:DPart) (i:Int):Int:=if treeOk p.tree&&liveAt p.tree i then i else 0
theorem liveAt_rng {t:List DRes} {i:Int} (h:liveAt t i=true):0≤i∧i≤4:=by
  unfold liveAt at h
  simp only [Bool.and_eq_true,inR_iff] at h
  exact h.1
theorem resOf_rng (p:DPart) (i:Int):0≤resOf p i∧resOf p i≤4:=by
  unfold resOf
  split
  · rename_i h
    simp only [Bool.and_eq_true] at h
    exact liveAt_rng h.2
  · omega
theorem i_ResOf {N:Nat} (hN:BIG≤N) (p:DPart) (i:Int):F_i_ResOf N p i=some (resOf p i):=by
  unfold F_i_ResOf resOf
  rw [i_TreeOk hN,Option.bind_some]
  cases h:treeOk p.tree
  · rfl
  · simp only [Bool.not_true,cond_false,i_isLive N (treeLen h),Option.bind_some,Bool.true_and]
    cases liveAt p.tree i <;> rfl
theorem s_l6Live {N:Nat} (hN:BIG≤N) (t:List DRes) (i:Int):F_s_l6Live N t i=some (treeOk t&&liveAt t i):=by
  unfold F_s_l6Live liveAt
  simp only [s_TreeOk hN,s_l6Res,Option.bind_some]
  cases h:treeOk t
  · rfl
  have hl:=treeLen h
  cases hi:inR i 0 4
  · rfl
  · simp only [cond_true,idx_in hi (by omega) (show (4:Int)<(t.length:Int) by omega),Option.bind_some,Bool.true_and]
theorem s_ResOf {N:Nat} (hN:BIG≤N) (p:DPart) (i:Int):F_s_ResOf N p i=some (resOf p i):=by
  unfold F_s_ResOf resOf
  rw [s_l6Live hN,Option.bind_some]
  cases (treeOk p.tree&&liveAt p.tree i) <;> rfl
theorem partOk_tree {p:DPart} (h:partOk p=true):treeOk p.tree=true:=by
  unfold partOk at h
  simp only [Bool.and_eq_true] at h
  exact h.2.2.1
theorem treeIdx {p:DPart} (h:partOk p=true) {i:Int} (h0:0≤i) (h4:i≤4):idx p.tree i=some (nth p.tree i):=idx_ok h0 (by have:=treeLen (partOk_tree h);omega)
def balAt (p:DPart) (i:Int):DAmt:=(nth p.tree (resOf p (nth p.heap.arena i).res)).bal
theorem i_balOf {N:Nat} (hN:BIG≤N) {p:DPart} (h:partOk p=true) {i:Int} (h0:0≤i) (h9:i≤9):F_i_balOf N p i=some (balAt p i):=by
  unfold F_i_balOf balAt
  obtain ⟨r0,r4⟩:=resOf_rng p (nth p.heap.arena i).res
  simp only [((partOk_ar h).at h0 h9).1,Option.bind_some,i_ResOf hN,treeIdx h r0 r4]
def mayRun (p:DPart) (i:Int):Bool:=((nth p.heap.arena i).wait==0)&&decide ((balAt p i).cpu > 0)
def runnable (p:DPart) (now:Int):List Int:=(threads p now).filter (mayRun p)
theorem runnable_len (p:DPart) (now:Int):(runnable p now).length≤10:=by
  unfold runnable
  refine Nat.le_trans (List.length_filter_le _ _) ?_
  unfold threads
  split
  · rename_i hp
    refine Nat.le_trans (collI_len _ _ _ _) ?_
    rw [reach_len (partOk_ar hp)];exact Nat.le_refl _
  · exact Nat.zero_le _
theorem i_Runnable {N:Nat} (hN:BIG≤N) {p:DPart} (hb:sz_DPart p<BIG) (now:Int):F_i_Runnable N p now=some (runnable p now):=by
  have hl:=threads_len p now
  unfold F_i_Runnable runnable
  rw [i_Threads hN hb,Option.bind_some,iter_coll (threads p now) (fun _ i=>mayRun p i) (fun _ y=>y) hl hN,collI_filter]
  · rfl
  · intro k t y hy hk ht
    obtain ⟨hp,y0,y9⟩:=threads_rng (List.mem_of_getElem? hy)
    simp only [lt_dec hk,cond_true,idx_nat,hy,Option.bind_some,((partOk_ar hp).at y0 y9).1,i_balOf hN hp y0 y9,bAnd,wrap1 (Nat.lt_trans hk hl),app1 ht (Nat.lt_of_le_of_lt hk hl)]
    show (bif mayRun p y then _ else _)=_
    cases mayRun p y <;> rfl
  · intro t
    simp only [ge_dec,cond_false]
theorem s_Runnable {N:Nat} (hN:BIG≤N) {p:DPart} (hb:sz_DPart p<BIG) (hw:wP p) (now:Int):F_s_Runnable N p now=some (runnable p now):=by
  have hl:=threads_len p now
  unfold F_s_Runnable runnable
  rw [s_Threads hN hb hw,Option.bind_some,iter_coll (threads p now) (fun _ i=>mayRun p i) (fun _ y=>y) hl hN,collI_filter]
  · rfl
  · intro k t y hy hk ht
    obtain ⟨hp,y0,y9⟩:=threads_rng (List.mem_of_getElem? hy)
    obtain ⟨r0,r4⟩:=resOf_rng p (nth p.heap.arena y).res
    simp only [lt_dec hk,cond_true,idx_nat,hy,Option.bind_some,((partOk_ar hp).at y0 y9).1,s_ResOf hN,treeIdx hp r0 r4,bAnd,wrap1 (Nat.lt_trans hk hl),app1 ht (Nat.lt_of_le_of_lt hk hl)]
    show (bif mayRun p y then _ else _)=_
    cases mayRun p y <;> rfl
  · intro t
    simp only [ge_dec,cond_false]
end Go.Kx
/- Plain laws: who is killed, who wakes. No program in sight. -/
namespace Go.Kx
open Go
set_option linter.unusedVariables false
set_option linter.unusedSimpArgs false
set_option maxRecDepth 10000
def better (p:DPart) (v i:Int):Int:=if decide ((balAt p i).cpu≤(balAt p v).cpu) then i else v
def victim (p:DPart) (now:Int):Int:=match threads p now with
  | a::b::l=>(b::l).foldl (better p) a
  | _=>-1
theorem better_mem {p:DPart} {m:List Int}:∀ (l:List Int) (v:Int),v ∈ m→(∀ y,y ∈ l→y ∈ m)→l.foldl (better p) v ∈ m
  | [],v,hv,_=>hv
  | y::l,v,hv,h=>by
    rw [List.foldl_cons]
    refine better_mem l _ ?_ fun z hz=>h z (by simp [hz])
    unfold better
    split
    · exact h y (by simp)
    · exact hv
theorem victim_mem {p:DPart} {now:Int} (h:decide (victim p now ≥ 0)=true):victim p now ∈ threads p now:=by
  unfold victim at h ⊢
  cases ht:threads p now with
  | nil=>rw [ht] at h;simp at h
  | cons a l=>cases l with
    | nil=>rw [ht] at h;simp at h
    | cons b l=>exact better_mem (b::l) a (by simp) fun y hy=>by simp at hy ⊢;exact .inr hy
theorem threads_at {p:DPart} {now y:Int} (h:y ∈ threads p now):partOk p=true∧0≤y∧y≤9:=threads_rng h
def changeAt (p:DPart) (l:List DObj):DPart:=DPart.mk p.label p.own p.tree (DHeap.mk l p.heap.gc) p.taps p.next p.want p.spent p.press p.lost
def tilled (o:DObj) (t:Int):DObj:=DObj.mk o.gen o.kind o.box o.res t o.pages o.wait o.got o.ran o.mark o.links o.data o.queue
def killed (p:DPart) (now:Int):List DObj:=if decide (victim p now ≥ 0) then p.heap.arena.set (victim p now).toNat (tilled (nth p.heap.arena (victim p now)) (IntKind.i64.wrap (now - 1))) else p.heap.arena
def partKill (p:DPart) (now:Int):DPart:=if partOk p&&(inR now 1 1000000&&!decide (p.press<3)) then DPart.mk p.label p.own p.tree (DHeap.mk (killed p now) p.heap.gc) p.taps p.next p.want p.spent 0 p.lost else p
def goodP (l:List DObj) (now part h:Int):Bool:=(arenaOk l&&(hOk h&&(hPart h==part)))&&(((nth l (hSlot h)).kind != 0)&&(((nth l (hSlot h)).gen==hGen h)&&nth (reach l now) (hSlot h)))
def goodSlot (l:List DObj) (now part h:Int):Int:=bif goodP l now part h then hSlot h else -1
theorem hSlot_ok {h:Int} (q:hOk h=true):0≤hSlot h∧hSlot h≤9:=(hSlot_rng (h:=h) (by unfold hPart;rw [q,if_pos rfl];rw [hOk_iff] at q;omega)).2
theorem s_GoodSlot {N:Nat} (hN:BIG≤N) {l:List DObj} (hb:szL sz_DObj l<BIG) (hw:wA l) (now part h:Int):F_s_GoodSlot N l now part h=some (goodSlot l now part h):=by
  unfold F_s_GoodSlot goodSlot goodP
  simp only [s_ArenaOk hN hb hw,s_Reach hN hb hw,s_l8Handle,s_HandlePart,s_HandleSlot,s_HandleGen,Option.bind_some,bOr]
  cases ha:arenaOk l
  · rfl
  have har:=arenaOk_iff.1 ha
  have hl:=reach_len har now
  rw [show inR h 0 29999=hOk h from rfl]
  cases hh:hOk h
  · rfl
  obtain ⟨s0,s9⟩:=hSlot_ok hh
  simp only [bne,(har.at s0 s9).1,idx_ok (l:=reach l now) s0 (by omega),Option.bind_some]
  cases hPart h==part <;> cases (nth l (hSlot h)).kind==0 <;> cases (nth l (hSlot h)).gen==hGen h <;> cases nth (reach l now) (hSlot h) <;> rfl
def wakeP (p:DPart) (me now:Int) (o:DObj):Bool:=decide (o.wait > 0)&&decide (goodSlot p.heap.arena now me (IntKind.i64.wrap (o.wait - 1))<0)
def woken (o:DObj):DObj:=DObj.mk o.gen o.kind o.box o.res o.til o.pages 0 (-1) o.ran o.mark o.links o.data o.queue
def wakes (p:DPart) (me now:Int):List DObj:=p.heap.arena.map fun o=>if wakeP p me now o then woken o else o
def partWake (p:DPart) (me now:Int):DPart:=if partOk p&&inR me 0 2 then changeAt p (wakes p me now) else p
theorem iter_map {α:Type} {body:List α×Int→Option ((List α×Int)⊕(List α×Int))} (x:List α) (f:α→α) {N:Nat} (hN:x.length<N)
    (hs:∀ (k:Nat) (t:List α) (y:α),t.length=x.length→t[k]?=some y→x[k]?=some y→k<x.length→body (t,(k:Int))=some (.inl (t.set k (f y),((k+1:Nat):Int))))
    (he:∀ t,t.length=x.length→body (t,(x.length:Int))=some (.inr (t,(x.length:Int)))):iter body N (x,0)=some (x.map f,(x.length:Int)):=by
  have key:∀ (r:List α) (d d':List α) (M:Nat),d'.length=d.length→x=d'++r→r.length<M→iter body M (d++r,(d.length:Int))=some (d++r.map f,(x.length:Int)):=by
    intro r
    induction r with
    | nil =>
      intro d d' M hd hx hM
      cases M with
      | zero=>simp at hM
      | succ M =>
        have e:d.length=x.length:=by rw [hx];simp [hd]
        unfold iter
        rw [List.append_nil,e,he d e];simp
    | cons y r ih =>
      intro d d' M hd hx hM
      cases M with
      | zero=>simp at hM
      | succ M =>
        have hlen:(d++y::r).length=x.length:=by rw [hx];simp [hd]
        unfold iter
        rw [hs d.length (d++y::r) y hlen (by rw [List.getElem?_append_right (Nat.le_refl _)];simp) (by rw [hx,List.getElem?_append_right (by omega)];simp [hd]) (by rw [← hlen];simp)]
        have e:(d++y::r).set d.length (f y)=(d++[f y])++r:=by rw [List.set_append_right _ _ (Nat.le_refl _)];simp
        have e2:d.length+1=(d++[f y]).length:=by simp
        simp only [Option.bind_some,e]
        rw [e2,ih (d++[f y]) (d'++[y]) M (by simp [hd]) (by rw [hx];simp) (by simp at hM;omega)]
        simp
  exact key x [] [] N rfl rfl hN
theorem set_get {α:Type} {l:List α} {k:Nat} {y:α} (h:l[k]?=some y):l.set k y=l:=by
  apply List.ext_getElem? fun i=>?_
  rw [List.getElem?_set]
  split
  · rename_i e
    subst e
    rw [if_pos (lt_of_some h),h]
  · rfl
theorem sumL_map {f:DObj→Nat} {g:DObj→DObj} (h:∀ o,f (g o)=f o):∀ l:List DObj,sumL f (l.map g)=sumL f l
  | []=>rfl
  | o::l=>by simp only [List.map_cons,sumL,h,sumL_map h l]
theorem szL_map {f:DObj→Nat} {g:DObj→DObj} (h:∀ o,f (g o)=f o) (l:List DObj):szL f (l.map g)=szL f l:=by
  unfold szL;rw [sumL_map h,List.length_map]
theorem wake_sz (p:DPart) (me now:Int):sz_DPart (partWake p me now)=sz_DPart p:=by
  unfold partWake
  split
  · unfold sz_DPart changeAt sz_DHeap wakes
    simp only
    rw [szL_map fun o=>by split <;> rfl]
  · rfl
theorem kill_sz (p:DPart) (now:Int):sz_DPart (partKill p now)≤sz_DPart p+100:=by
  unfold partKill
  split
  · rename_i h
    simp only [Bool.and_eq_true] at h
    have hsz:szL sz_DObj (killed p now)≤szL sz_DObj p.heap.arena+12:=by
      unfold killed
      split
      · rename_i hv
        obtain ⟨_,v0,v9⟩:=threads_rng (victim_mem hv)
        have:=objOk_sz ((partOk_ar h.1).ok _ ((partOk_ar h.1).at v0 v9).2)
        exact Nat.le_trans szL_set (Nat.add_le_add_left this _)
      · omega
    unfold sz_DPart sz_DHeap
    simp only
    omega
  · omega
end Go.Kx
/- Plain laws: what is paid and paid back; who runs next. No program in sight. -/
namespace Go.Kx
open Go
set_option linter.unusedVariables false
set_option linter.unusedSimpArgs false
set_option maxRecDepth 10000
def amtOne (w n:Int):DAmt:=if w==0 then ⟨n,0,0⟩ else if w==1 then ⟨0,n,0⟩ else if w==2 then ⟨0,0,n⟩ else ⟨0,0,0⟩
theorem i_AmtOne (N:Nat) (w n:Int):F_i_AmtOne N w n=some (amtOne w n):=by
  unfold F_i_AmtOne amtOne
  cases w==0 <;> cases w==1 <;> cases w==2 <;> rfl
theorem s_AmtOne (N:Nat) (w n:Int):F_s_AmtOne N w n=some (amtOne w n):=by
  unfold F_s_AmtOne amtOne
  cases w==0 <;> cases w==1 <;> cases w==2 <;> rfl
def amtFits (a b:DAmt):Bool:=amtOk a&&(amtOk b&&(decide (a.pages≤b.pages)&&(decide (a.rent≤b.rent)&&decide (a.cpu≤b.cpu))))
theorem i_AmtFits (N:Nat) (a b:DAmt):F_i_AmtFits N a b=some (amtFits a b):=by
  unfold F_i_AmtFits amtFits
  simp only [i_AmtOk,Option.bind_some,bAnd]
theorem s_AmtFits (N:Nat) (a b:DAmt):F_s_AmtFits N a b=some (amtFits a b):=by
  unfold F_s_AmtFits amtFits
  simp only [s_AmtOk,Option.bind_some,bAnd]
def amtMinus (a b:DAmt):DAmt:=⟨IntKind.i64.wrap (a.pages - b.pages),IntKind.i64.wrap (a.rent - b.rent),IntKind.i64.wrap (a.cpu - b.cpu)⟩
def amtSub (a b:DAmt):DAmt×Bool:=if amtFits b a then (amtMinus a b,true) else (a,false)
theorem i_AmtSub (N:Nat) (a b:DAmt):F_i_AmtSub N a b=some (amtSub a b):=by
  unfold F_i_AmtSub amtSub
  rw [i_AmtFits,Option.bind_some]
  cases amtFits b a <;> rfl
theorem s_AmtSub (N:Nat) (a b:DAmt):F_s_AmtSub N a b=some (amtSub a b):=by
  unfold F_s_AmtSub amtSub
  rw [s_AmtFits,Option.bind_some]
  cases amtFits b a <;> rfl
def withBal (r:DRes) (b:DAmt):DRes:=DRes.mk r.live r.parent b
theorem nth_get {α:Type} [Dat α] {l:List α} {i:Int} (h0:0≤i) (h1:i<(l.length:Int)):l[i.toNat]?=some (nth l i):=by
  have:=idx_ok (l:=l) h0 h1
  unfold idx at this
  rwa [if_pos h0] at this
def treePay (t:List DRes) (f:Int) (a:DAmt):List DRes×Bool :=
  if treeOk t&&liveAt t f then (if amtFits a (nth t f).bal then (t.set f.toNat (withBal (nth t f) (amtMinus (nth t f).bal a)),true) else (t,false)) else (t,false)
theorem i_TreePay {N:Nat} (hN:BIG≤N) {t:List DRes} (hB:t.length<BIG) (f:Int) (a:DAmt):F_i_TreePay N t f a=some (treePay t f a):=by
  unfold F_i_TreePay treePay
  simp only [i_copyTree hB,i_TreeOk hN,Option.bind_some]
  cases ht:treeOk t
  · rfl
  have hl:=treeLen ht
  simp only [Bool.not_true,cond_false,i_isLive N hl,Option.bind_some]
  cases hv:liveAt t f
  · rfl
  obtain ⟨f0,f4⟩:=liveAt_rng hv
  simp only [Bool.not_true,cond_false,idx_ok (l:=t) f0 (by omega),i_AmtSub,Option.bind_some,Bool.and_self,if_true]
  unfold amtSub
  cases amtFits a (nth t f).bal
  · have:t.set f.toNat (DRes.mk (nth t f).live (nth t f).parent (DAmt.mk (nth t f).bal.pages (nth t f).bal.rent (nth t f).bal.cpu))=t:=set_get (nth_get f0 (by omega))
    simp only [Bool.false_eq_true,if_false]
    rw [this]
  · rfl
theorem s_TreePay {N:Nat} (hN:BIG≤N) {t:List DRes} (hB:t.length<BIG) (f:Int) (a:DAmt):F_s_TreePay N t f a=some (treePay t f a):=by
  unfold F_s_TreePay treePay
  simp only [s_l6Copy hB,s_l6Live hN,Option.bind_some]
  cases h:(treeOk t&&liveAt t f)
  · rfl
  rw [Bool.and_eq_true] at h
  have hl:=treeLen h.1
  obtain ⟨f0,f4⟩:=liveAt_rng h.2
  simp only [Bool.not_true,cond_false,idx_ok (l:=t) f0 (by omega),s_AmtSub,Option.bind_some,if_true]
  unfold amtSub
  cases amtFits a (nth t f).bal <;> rfl
theorem treePay_len (t:List DRes) (f:Int) (a:DAmt):(treePay t f a).1.length=t.length:=by
  unfold treePay
  split
  · split <;> simp
  · rfl
def rnGo (last pick:Int):Int→Int→List Int→Int
  | least,next,[]=>if decide (next ≥ 0) then next else least
  | least,next,y::l=>if decide (y<0) then rnGo last pick least next l else if y==pick then y else
      rnGo last pick (if decide (least<0) || decide (y<least) then y else least) (if decide (y > last)&&(decide (next<0) || decide (y<next)) then y else next) l
def runNext (l:List Int) (last pick:Int):Int:=rnGo last pick (-1) (-1) l
theorem rnGo_mem {last pick:Int} {P:Int→Prop}:∀ (l:List Int) (a b:Int),P a→P b→(∀ y,y ∈ l→P y)→P (rnGo last pick a b l)
  | [],a,b,ha,hb,_=>by unfold rnGo;split <;> assumption
  | y::l,a,b,ha,hb,h=>by
    have hy:=h y (by simp)
    have hl:∀ z,z ∈ l→P z:=fun z hz=>h z (by simp [hz])
    unfold rnGo
    split
    · exact rnGo_mem l a b ha hb hl
    · split
      · exact hy
      · refine rnGo_mem l _ _ ?_ ?_ hl
        · split <;> assumption
        · split <;> assumption
theorem runNext_mem (l:List Int) (last pick:Int) (h:decide (runNext l last pick<0)=false):runNext l last pick ∈ l:=by
  have:=rnGo_mem (last:=last) (pick:=pick) (P:=fun y=>y=-1∨y ∈ l) l (-1) (-1) (.inl rfl) (.inl rfl) fun y hy=>.inr hy
  rcases this with q | q
  · unfold runNext at h;rw [q] at h;simp at h
  · exact q
theorem rnLoop {N:Nat} (hN:BIG≤N) {l:List Int} (hl:l.length<BIG) (last pick:Int) {body:Int×Int×Int→Option ((Int×Int×Int)⊕((Int×Int×Int)⊕Int))}
    (hs:∀ (k:Nat) (a b y:Int),l[k]?=some y→k<l.length→body (a,b,(k:Int))=some (if decide (y<0) then .inl (a,b,((k+1:Nat):Int)) else if y==pick then .inr (.inr y) else
      .inl (if decide (a<0) || decide (y<a) then y else a,if decide (y > last)&&(decide (b<0) || decide (y<b)) then y else b,((k+1:Nat):Int)))) (he:∀ a b,body (a,b,(l.length:Int))=some (.inr (.inl (a,b,(l.length:Int))))) :
    (iter body N (-1, -1,0)).bind (fun o29=>Sum.elim (fun o29=>bif (decide (o29.2.1 ≥ 0)) then (some o29.2.1) else (some o29.1)) (fun r33=>some r33) o29)=some (runNext l last pick):=by
  rw [show ((-1:Int),(-1:Int),(0:Int))=(fun (k:Nat) (t:Int×Int)=>(t.1,t.2,(k:Int))) 0 (-1, -1) from rfl,
    iter_list l (fun (k:Nat) (t:Int×Int)=>(t.1,t.2,(k:Int))) (fun _ t y=>if decide (y<0) then .inl t else if y==pick then .inr (.inr y) else .inl (if decide (t.1<0) || decide (y<t.1) then y else t.1,if decide (y > last)&&(decide (t.2<0) || decide (y<t.2)) then y else t.2)) (fun t=>.inl (t.1,t.2,(l.length:Int))) (fun _ _=>True) ?_ ?_ (Nat.lt_of_lt_of_le hl hN) trivial]
  · simp only [Option.bind_some]
    have key:∀ (m:List Int) (k:Nat) (t:Int×Int),Sum.elim (fun (o29:Int×Int×Int)=>bif (decide (o29.2.1 ≥ 0)) then (some o29.2.1) else (some o29.1)) (fun r33=>some r33) (runL (ρ:=(Int×Int×Int)⊕Int) (fun _ t y=>if decide (y<0) then .inl t else if y==pick then .inr (.inr y) else .inl (if decide (t.1<0) || decide (y<t.1) then y else t.1,if decide (y > last)&&(decide (t.2<0) || decide (y<t.2)) then y else t.2)) (fun t=>.inl (t.1,t.2,(l.length:Int))) k t m)=some (rnGo last pick t.1 t.2 m):=by
      intro m
      induction m with
      | nil =>
        intro k t
        unfold runL rnGo
        simp only [Sum.elim_inl]
        cases decide (t.2 ≥ 0) <;> rfl
      | cons y m ih =>
        intro k t
        unfold runL rnGo
        cases decide (y<0)
        · cases y==pick
          · exact ih (k+1) _
          · rfl
        · exact ih (k+1) t
    exact key l 0 (-1, -1)
  · intro k t y hy hk _
    refine ⟨?_,fun _ _=>trivial⟩
    rw [hs k t.1 t.2 y hy hk]
    cases decide (y<0)
    · cases y==pick <;> rfl
    · rfl
  · intro t _
    exact he t.1 t.2
theorem i_RunNext {N:Nat} (hN:BIG≤N) {l:List Int} (hl:l.length<BIG) (last pick:Int):F_i_RunNext N l last pick=some (runNext l last pick):=by
  unfold F_i_RunNext
  refine rnLoop hN hl last pick ?_ ?_
  · intro k a b y hy hk
    simp only [lt_dec hk,cond_true,idx_nat,hy,Option.bind_some,wrap1 (Nat.lt_trans hk hl)]
    cases decide (y<0) <;> cases y==pick <;> cases decide (a<0) <;> cases decide (y<a) <;> cases decide (y > last) <;> cases decide (b<0) <;> cases decide (y<b) <;> rfl
  · intro a b
    simp only [ge_dec,cond_false]
def ranMore (o:DObj):DObj:=DObj.mk o.gen o.kind o.box o.res o.til o.pages o.wait o.got (IntKind.i64.wrap (o.ran+1)) o.mark o.links o.data o.queue
def nextOf (p:DPart) (now:Int):Int:=runNext (runnable p now) p.next (IntKind.i64.wrap (p.want - 1))
def noRun (p:DPart) (now:Int):Bool:=decide (nextOf p now<0) || (decide (p.spent.cpu ≥ 1000000) || decide ((nth p.heap.arena (nextOf p now)).ran ≥ 1000000))
def partRun (p:DPart) (now:Int):DPart×Int :=
  if partOk p then
    (if noRun p now then (DPart.mk p.label p.own p.tree p.heap p.taps p.next 0 p.spent p.press p.lost, -1) else
      (DPart.mk p.label p.own (treePay p.tree (resOf p (nth p.heap.arena (nextOf p now)).res) ⟨0,0,1⟩).1 (DHeap.mk (p.heap.arena.set (nextOf p now).toNat (ranMore (nth p.heap.arena (nextOf p now)))) p.heap.gc) p.taps (nextOf p now) 0
        (DAmt.mk p.spent.pages p.spent.rent (IntKind.i64.wrap (p.spent.cpu+1))) p.press p.lost,nextOf p now))
  else (p, -1)
theorem nextOf_at {p:DPart} {now:Int} (h:decide (nextOf p now<0)=false):partOk p=true∧0≤nextOf p now∧nextOf p now≤9:=by
  have:=runNext_mem _ _ _ h
  unfold runnable at this
  exact threads_rng (List.mem_filter.1 this).1
theorem ran_le {o:DObj} (h:objOk o=true):0≤o.ran∧o.ran≤1000000:=by
  unfold objOk at h
  cases hk:o.kind==0
  · simp only [hk,cond_false,Bool.and_eq_true] at h
    have h:=h.2.2.2.2.2.2.2
    cases h4:o.kind != 4
    · rw [h4] at h
      simp only [cond_false,Bool.and_eq_true] at h
      exact inR_iff.1 h.2.2
    · rw [h4] at h
      simp only [cond_true,Bool.and_eq_true,beq_iff_eq] at h
      omega
  · simp only [hk,cond_true,Bool.and_eq_true,decide_eq_true_eq] at h
    rw [h.2.2]
    exact ⟨Int.le_refl _,by show (0:Int)≤1000000;decide⟩
theorem eq_max {n:Int} (h:n≤1000000):(n==1000000)=decide (n ≥ 1000000):=by
  rw [Bool.eq_iff_iff];simp;omega
theorem amtOk_rng {a:DAmt} (h:amtOk a=true):(0≤a.pages∧a.pages≤1000000)∧(0≤a.rent∧a.rent≤1000000)∧(0≤a.cpu∧a.cpu≤1000000):=by
  unfold amtOk okA at h
  simpa only [Bool.and_eq_true,inR_iff] using h
theorem partOk_spent {p:DPart} (h:partOk p=true):amtOk p.spent=true:=by
  unfold partOk restOk at h
  simp only [Bool.and_eq_true] at h
  exact h.2.2.2.2.2.2.2.2.1
theorem i_PartRun {N:Nat} (hN:BIG≤N) {p:DPart} (hb:sz_DPart p<BIG) (now:Int):F_i_PartRun N p now=some (partRun p now):=by
  have hr:(runnable p now).length<BIG:=Nat.lt_of_le_of_lt (runnable_len p now) (by decide)
  unfold F_i_PartRun partRun
  simp only [i_copyPart hN hb,i_PartOk hN hb,i_Runnable hN hb,i_RunNext hN hr,Option.bind_some]
  cases hp:partOk p
  · rfl
  simp only [Bool.not_true,cond_false,if_true]
  rw [show runNext (runnable p now) p.next (IntKind.i64.wrap (p.want - 1))=nextOf p now from rfl]
  unfold noRun
  have hsp:=amtOk_rng (partOk_spent hp)
  cases hn:decide (nextOf p now<0)
  · obtain ⟨_,n0,n9⟩:=nextOf_at hn
    obtain ⟨e1,e2⟩:=(partOk_ar hp).at n0 n9
    have hran:=ran_le ((partOk_ar hp).ok _ e2)
    simp only [cond_false,e1,Option.bind_some,eq_max hsp.2.2.2,eq_max hran.2,i_AmtOne,i_ResOf hN,i_TreePay hN (szPart hb).2.2.1,i_sumOf,Bool.false_or]
    cases decide (p.spent.cpu ≥ 1000000)
    · cases decide ((nth p.heap.arena (nextOf p now)).ran ≥ 1000000)
      · have ea:amtSum p.spent (amtOne 2 1)=DAmt.mk p.spent.pages p.spent.rent (IntKind.i64.wrap (p.spent.cpu+1)):=by
          show DAmt.mk (IntKind.i64.wrap (p.spent.pages+0)) (IntKind.i64.wrap (p.spent.rent+0)) (IntKind.i64.wrap (p.spent.cpu+1))=_
          rw [wrap_ok (n:=p.spent.pages+0) (by omega) (by omega),wrap_ok (n:=p.spent.rent+0) (by omega) (by omega),Int.add_zero,Int.add_zero]
        rw [ea];rfl
      · rfl
    · rfl
  · rfl
theorem run_sz (p:DPart) (now:Int):sz_DPart (partRun p now).1≤sz_DPart p+100:=by
  unfold partRun
  split
  · rename_i hp
    split
    · exact Nat.le_add_right _ _
    · rename_i hn
      unfold noRun at hn
      simp only [Bool.or_eq_true,not_or,Bool.not_eq_true] at hn
      obtain ⟨_,n0,n9⟩:=nextOf_at hn.1
      have h1:=objOk_sz ((partOk_ar hp).ok _ ((partOk_ar hp).at n0 n9).2)
      have h2:szL sz_DObj (p.heap.arena.set (nextOf p now).toNat (ranMore (nth p.heap.arena (nextOf p now))))≤szL sz_DObj p.heap.arena+12:=Nat.le_trans szL_set (Nat.add_le_add_left h1 _)
      have h3:=treePay_len p.tree (resOf p (nth p.heap.arena (nextOf p now)).res) ⟨0,0,1⟩
      unfold sz_DPart sz_DHeap
      simp only [h3]
      omega
  · exact Nat.le_add_right _ _
end Go.Kx
/- Plain laws: what is freed, shaded, swept; a collector's step. No program in sight. -/
namespace Go.Kx
open Go
set_option linter.unusedVariables false
set_option linter.unusedSimpArgs false
set_option maxRecDepth 10000
def unl1 (i:Int) (x:Int):Int:=if x==i then -1 else x
def unl (i:Int) (o:DObj):DObj:=if o.kind==0 then o else DObj.mk o.gen o.kind (if o.box==i then -1 else o.box) o.res o.til o.pages o.wait o.got o.ran o.mark (o.links.map (unl1 i)) o.data o.queue
def arenaFree (l:List DObj) (i:Int):List DObj×Bool:=if arenaOk l&&(inR i 1 9&&((nth l i).kind != 0)) then ((l.set i.toNat (blank (nth l i).gen)).map (unl i),true) else (l,false)
theorem freed_ok {l:List DObj} (h:Ar l) {i g:Int} {k:Nat} {y:DObj} (hy:(l.set i.toNat (blank g))[k]?=some y) (hk:(y.kind==0)=false):objOk y=true:=by
  rcases List.mem_or_eq_of_mem_set (List.mem_of_getElem? hy) with q | q
  · exact h.ok y q
  · rw [q] at hk;simp [blank] at hk
theorem objOk_two {o:DObj} (h:objOk o=true) (hk:(o.kind==0)=false):o.links.length=2:=by
  unfold objOk at h
  simp only [hk,cond_false,Bool.and_eq_true] at h
  obtain ⟨_,_,_,_,_,_,hl,_⟩:=h
  unfold listsOk at hl
  simp only [Bool.and_eq_true,beq_iff_eq] at hl
  omega
theorem s_ArenaFree {N:Nat} (hN:BIG≤N) {l:List DObj} (hb:szL sz_DObj l<BIG) (hw:wA l) (i:Int):F_s_ArenaFree N l i=some (arenaFree l i):=by
  unfold F_s_ArenaFree arenaFree
  simp only [s_l8Copy hN hb,s_ArenaOk hN hb hw,s_in,Option.bind_some]
  cases ha:arenaOk l
  · rfl
  have h:=arenaOk_iff.1 ha
  cases hi:inR i 1 9
  · rfl
  have hr:=inR_iff.1 hi
  simp only [Bool.not_true,cond_false,(h.at (i:=i) (by omega) hr.2).1,Option.bind_some,bne,Bool.true_and]
  cases hk:(nth l i).kind==0
  · simp only [cond_false,Bool.not_false,if_true]
    rw [show DObj.mk (nth l i).gen 0 0 0 0 0 0 0 0 false [] [] []=blank (nth l i).gen from rfl]
    have hlen:(l.set i.toNat (blank (nth l i).gen)).length=l.length:=List.length_set
    rw [iter_map (l.set i.toNat (blank (nth l i).gen)) (unl i) (by rw [hlen];exact Nat.lt_of_lt_of_le h.lenB hN)]
    · rfl
    · intro k t y ht hty hy hkl
      have hk10:k<10:=by rw [hlen,h.len] at hkl;exact hkl
      have hkt:k<t.length:=lt_of_some hty
      simp only [lt_dec hkt,cond_true,idx_nat,hty,Option.bind_some,wrap1 (show k<BIG from Nat.lt_trans hk10 (by decide))]
      unfold unl
      cases hyk:y.kind==0
      · have ho:=freed_ok h hy hyk
        have h2:=objOk_two ho hyk
        simp only [cond_false,Bool.false_eq_true,if_false]
        have inner:∀ (t2:List DObj) (z:DObj),t2.length=t.length→t2[k]?=some z→z.links.length=2→iter (fun (s90:(List DObj)×Int)=>(bif (decide (s90.2<2)) then ((idx s90.1 (k:Int)).bind fun y93=>(idx y93.links s90.2).bind fun y115=>bif (y115==i) then (some (.inl ((s90.1.set (k:Int).toNat (DObj.mk y93.gen y93.kind y93.box y93.res y93.til y93.pages y93.wait y93.got y93.ran y93.mark (y93.links.set (s90.2:Int).toNat (-1)) y93.data y93.queue)),IntKind.i64.wrap (s90.2+1)))) else (some (.inl (s90.1,IntKind.i64.wrap (s90.2+1))))) else (some (.inr (s90.1,s90.2))):Option (((List DObj)×Int)⊕((List DObj)×Int)))) N (t2,0) =
            some (t2.set k (DObj.mk z.gen z.kind z.box z.res z.til z.pages z.wait z.got z.ran z.mark (z.links.map (unl1 i)) z.data z.queue),2):=by
          intro t2 z hl2 hz hz2
          have hk2:k<t2.length:=by omega
          obtain ⟨a,b,hab⟩:∃ a b,z.links=[a,b]:=by
            match hq:z.links with
            | []=>simp [hq] at hz2
            | [a]=>simp [hq] at hz2
            | [a,b]=>exact ⟨a,b,rfl⟩
            | a::b::c::r=>simp [hq] at hz2
          obtain ⟨M,rfl⟩:∃ M,N=M+3:=⟨N - 3,by have:16777216≤N:=hN;omega⟩
          have hset:∀ u:DObj,(t2.set k u)[k]?=some u:=fun u=>List.getElem?_set_self hk2
          have hid:t2.set k (DObj.mk z.gen z.kind z.box z.res z.til z.pages z.wait z.got z.ran z.mark [a,b] z.data z.queue)=t2:=by rw [← hab];exact set_get hz
          have w1:IntKind.i64.wrap (0+1)=1:=by decide
          have w2:IntKind.i64.wrap (1+1)=2:=by decide
          unfold iter
          simp only [show decide ((0:Int)<2)=true from rfl,cond_true,idx_nat,hz,Option.bind_some,hab,show idx [a,b] 0=some a from rfl,w1,Int.toNat_natCast]
          cases hA:a==i
          · simp only [cond_false,Option.bind_some]
            unfold iter
            simp only [show decide ((1:Int)<2)=true from rfl,cond_true,idx_nat,hz,Option.bind_some,hab,show idx [a,b] 1=some b from rfl,w2,Int.toNat_natCast]
            cases hB:b==i
            · simp only [cond_false,Option.bind_some]
              unfold iter
              simp [unl1,hA,hB,hid]
            · simp only [cond_true,Option.bind_some]
              unfold iter
              simp [unl1,hA,hB]
          · simp only [cond_true,Option.bind_some]
            unfold iter
            simp only [show decide ((1:Int)<2)=true from rfl,cond_true,idx_nat,hset,Option.bind_some,w2,Int.toNat_natCast]
            rw [show idx ([a,b].set (0:Int).toNat (-1)) 1=some b from rfl]
            simp only [Option.bind_some]
            cases hB:b==i
            · simp only [cond_false,Option.bind_some]
              unfold iter
              simp [unl1,hA,hB]
            · simp only [cond_true,Option.bind_some,List.set_set]
              unfold iter
              simp [unl1,hA,hB]
        simp only [idx_nat,Int.toNat_natCast] at inner ⊢
        cases hbx:y.box==i
        · simp only [cond_false,Option.bind_some,Bool.false_eq_true,if_false]
          rw [inner t y rfl hty h2];rfl
        · simp only [cond_true,Option.bind_some,Int.toNat_natCast,if_true]
          have e:=inner (t.set k (DObj.mk y.gen y.kind (-1) y.res y.til y.pages y.wait y.got y.ran y.mark y.links y.data y.queue)) (DObj.mk y.gen y.kind (-1) y.res y.til y.pages y.wait y.got y.ran y.mark y.links y.data y.queue) List.length_set (List.getElem?_set_self hkt) h2
          rw [e]
          simp only [Option.bind_some,List.set_set]
      · simp only [cond_true,if_true]
        rw [set_get hty]
    · intro t ht
      rw [← ht]
      simp only [ge_dec,cond_false]
  · rfl
def treeBack (t:List DRes) (f:Int) (a:DAmt):List DRes×Bool :=
  if treeOk t&&(amtOk a&&amtOk (amtSum (treeSum t) a)) then
    (t.set (if liveAt t f then f else 0).toNat (withBal (nth t (if liveAt t f then f else 0)) (amtSum (nth t (if liveAt t f then f else 0)).bal a)),true)
  else (t,false)
theorem treeBack_len (t:List DRes) (f:Int) (a:DAmt):(treeBack t f a).1.length=t.length:=by
  unfold treeBack
  split <;> simp
theorem okA_iff {n:Int}:okA n=true ↔ 0≤n∧n≤1000000:=inR_iff
theorem amtOk_iff {a:DAmt}:amtOk a=true ↔ (0≤a.pages∧a.pages≤1000000)∧(0≤a.rent∧a.rent≤1000000)∧(0≤a.cpu∧a.cpu≤1000000):=by
  unfold amtOk;simp only [Bool.and_eq_true,okA_iff]
theorem sumLive_ge:∀ (t:List DRes) (s:DAmt) (B:Int),(∀ r,r ∈ t→amtOk r.bal=true)→0≤B→B+1000000 * (t.length:Int)≤1000000000→(0≤s.pages∧s.pages≤B)→(0≤s.rent∧s.rent≤B)→(0≤s.cpu∧s.cpu≤B) →
    (s.pages≤(sumLive s t).pages∧s.rent≤(sumLive s t).rent∧s.cpu≤(sumLive s t).cpu) ∧
      ∀ r,r ∈ t→r.live=true→r.bal.pages≤(sumLive s t).pages∧r.bal.rent≤(sumLive s t).rent∧r.bal.cpu≤(sumLive s t).cpu
  | [],s,B,_,_,_,_,_,_=>⟨⟨Int.le_refl _,Int.le_refl _,Int.le_refl _⟩,fun r hr=>by simp at hr⟩
  | r::t,s,B,h,hB,hL,h1,h2,h3=>by
    have hr:=amtOk_iff.1 (h r (by simp))
    simp only [List.length_cons] at hL
    have e:sumLive s (r::t)=sumLive (if r.live then amtSum s r.bal else s) t:=rfl
    rw [e]
    cases hv:r.live
    · obtain ⟨q1,q2⟩:=sumLive_ge t s B (fun x hx=>h x (by simp [hx])) hB (by omega) h1 h2 h3
      refine ⟨q1,fun x hx hl=>?_⟩
      rcases List.mem_cons.1 hx with rfl | hx
      · rw [hv] at hl;cases hl
      · exact q2 x hx hl
    · simp only [if_true]
      have w1:(amtSum s r.bal).pages=s.pages+r.bal.pages:=wrap_ok (by omega) (by omega)
      have w2:(amtSum s r.bal).rent=s.rent+r.bal.rent:=wrap_ok (by omega) (by omega)
      have w3:(amtSum s r.bal).cpu=s.cpu+r.bal.cpu:=wrap_ok (by omega) (by omega)
      obtain ⟨⟨a1,a2,a3⟩,q2⟩:=sumLive_ge t (amtSum s r.bal) (B+1000000) (fun x hx=>h x (by simp [hx])) (by omega) (by omega) (by omega) (by omega) (by omega)
      refine ⟨⟨by omega,by omega,by omega⟩,fun x hx hl=>?_⟩
      rcases List.mem_cons.1 hx with rfl | hx
      · exact ⟨by omega,by omega,by omega⟩
      · exact q2 x hx hl
theorem back_fits {t:List DRes} (h:Tr t) {a:DAmt} (ha:amtOk a=true) (hs:amtOk (amtSum (sumLive ⟨0,0,0⟩ t) a)=true) {i:Int} (hi:0≤i∧i≤4) (hv:(nth t i).live=true):amtAdd (nth t i).bal a=(amtSum (nth t i).bal a,true):=by
  have hl:=h.len
  have hm:nth t i ∈ t:=nth_mem hi.1 (by omega)
  obtain ⟨_,q⟩:=sumLive_ge t ⟨0,0,0⟩ 0 h.bal (by omega) (by omega) ⟨by decide,by decide⟩ ⟨by decide,by decide⟩ ⟨by decide,by decide⟩
  obtain ⟨q1,q2,q3⟩:=q _ hm hv
  have hb:=amtOk_iff.1 (h.bal _ hm)
  have ha':=amtOk_iff.1 ha
  have hS:=amtOk_iff.1 h.sum
  have w1:(amtSum (sumLive ⟨0,0,0⟩ t) a).pages=(sumLive ⟨0,0,0⟩ t).pages+a.pages:=wrap_ok (by omega) (by omega)
  have w2:(amtSum (sumLive ⟨0,0,0⟩ t) a).rent=(sumLive ⟨0,0,0⟩ t).rent+a.rent:=wrap_ok (by omega) (by omega)
  have w3:(amtSum (sumLive ⟨0,0,0⟩ t) a).cpu=(sumLive ⟨0,0,0⟩ t).cpu+a.cpu:=wrap_ok (by omega) (by omega)
  have hs':=amtOk_iff.1 hs
  have v1:(amtSum (nth t i).bal a).pages=(nth t i).bal.pages+a.pages:=wrap_ok (by omega) (by omega)
  have v2:(amtSum (nth t i).bal a).rent=(nth t i).bal.rent+a.rent:=wrap_ok (by omega) (by omega)
  have v3:(amtSum (nth t i).bal a).cpu=(nth t i).bal.cpu+a.cpu:=wrap_ok (by omega) (by omega)
  have:amtOk (amtSum (nth t i).bal a)=true:=amtOk_iff.2 ⟨by omega,by omega,by omega⟩
  unfold amtAdd
  rw [h.bal _ hm,ha,this];rfl
theorem s_TreeBack {N:Nat} (hN:BIG≤N) {t:List DRes} (hB:t.length<BIG) (f:Int) (a:DAmt):F_s_TreeBack N t f a=some (treeBack t f a):=by
  unfold F_s_TreeBack treeBack
  simp only [s_l6Copy hB,s_TreeOk hN,s_l6Sum hN hB,s_AmtAdd,s_l6Live hN,Option.bind_some]
  cases ht:treeOk t
  · rfl
  have hT:=treeOk_iff.1 ht
  have hl:=hT.len
  have e:(amtAdd (sumLive ⟨0,0,0⟩ t) a).2=(amtOk a&&amtOk (amtSum (treeSum t) a)):=by
    unfold amtAdd treeSum
    rw [hT.sum,ht]
    simp only [if_true,Bool.true_and]
    cases amtOk a&&amtOk (amtSum (sumLive ⟨0,0,0⟩ t) a) <;> rfl
  rw [e]
  simp only [Bool.not_true,cond_false,Bool.true_and]
  cases hc:(amtOk a&&amtOk (amtSum (treeSum t) a))
  · rfl
  rw [Bool.and_eq_true] at hc
  have hs:amtOk (amtSum (sumLive ⟨0,0,0⟩ t) a)=true:=by
    have:=hc.2
    unfold treeSum at this
    rwa [ht,if_pos rfl] at this
  simp only [Bool.not_true,cond_false,if_true]
  cases hv:liveAt t f
  · simp only [Bool.not_false,cond_true,Option.bind_some,idx_ok (l:=t) (i:=0) (by omega) (by omega),back_fits hT hc.1 hs (i:=0) ⟨by omega,by omega⟩ hT.live0,Bool.false_eq_true,if_false];rfl
  · obtain ⟨f0,f4⟩:=liveAt_rng hv
    have hlv:(nth t f).live=true:=by unfold liveAt at hv;rw [Bool.and_eq_true] at hv;exact hv.2
    simp only [Bool.not_true,cond_false,Option.bind_some,idx_ok (l:=t) f0 (by omega),back_fits hT hc.1 hs (i:=f) ⟨f0,f4⟩ hlv,if_true];rfl
end Go.Kx
