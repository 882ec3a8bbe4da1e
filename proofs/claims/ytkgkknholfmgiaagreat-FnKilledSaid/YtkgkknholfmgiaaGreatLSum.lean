/- Plain laws: sums; what a right world is. No program in sight. -/
import Derived.Test.YtkgkknholfmgiaaGreatLReach
namespace Go.Kx
open Go
set_option linter.unusedVariables false
set_option linter.unusedSimpArgs false
set_option maxRecDepth 10000
def NA (a:DAmt):Prop:=IntKind.i64.wrap a.pages=a.pages∧IntKind.i64.wrap a.rent=a.rent∧IntKind.i64.wrap a.cpu=a.cpu
theorem wrap_wrap (n:Int):IntKind.i64.wrap (IntKind.i64.wrap n)=IntKind.i64.wrap n:=by
  have:-9223372036854775808≤IntKind.i64.wrap n∧IntKind.i64.wrap n≤9223372036854775807:=by
    simp only [IntKind.wrap,IntKind.signed,IntKind.bits];simp;omega
  exact wrap_ok this.1 this.2
theorem NA.sum (a b:DAmt):NA (amtSum a b):=⟨wrap_wrap _,wrap_wrap _,wrap_wrap _⟩
theorem NA.zero:NA ⟨0,0,0⟩:=⟨by decide,by decide,by decide⟩
def treeSum (t:List DRes):DAmt:=if treeOk t then sumLive ⟨0,0,0⟩ t else ⟨0,0,0⟩
structure Tr (t:List DRes):Prop where
  len:t.length=5
  live0:(nth t 0).live=true
  par0:(nth t 0).parent=-1
  dead:∀ r,r ∈ t→r.live=false→r=zRes
  bal:∀ r,r ∈ t→amtOk r.bal=true
  lead:∀ (k:Nat) (r:DRes),t[k]?=some r→r.live=true→leads t 5 (k:Int)=true
  sum:amtOk (sumLive ⟨0,0,0⟩ t)=true
theorem zRes_bal:amtOk zRes.bal=true:=by decide
theorem treeOk_iff {t:List DRes}:treeOk t=true ↔ Tr t:=by
  unfold treeOk
  simp only [Bool.and_eq_true,Bool.not_eq_true',bne_eq_false_iff_eq,allI_iff,Nat.zero_add]
  constructor
  · rintro ⟨h1,h2,h3,h4,h5⟩
    have hm:∀ r,r ∈ t→∃ k:Nat,t[k]?=some r:=fun o ho=>List.getElem?_of_mem ho
    refine ⟨by omega,h2,h3,fun r hr hl=>?_,fun r hr=>?_,fun k r hk hl=>?_,h5⟩
    · obtain ⟨k,hk⟩:=hm r hr
      have:=h4 k r hk
      unfold treeP at this
      simpa [hl] using this
    · obtain ⟨k,hk⟩:=hm r hr
      have:=h4 k r hk
      unfold treeP at this
      split at this
      · simp only [Bool.and_eq_true] at this;exact this.1
      · simp only [decide_eq_true_eq] at this;rw [this];exact zRes_bal
    · have:=h4 k r hk
      unfold treeP at this
      rw [if_pos hl] at this
      simp only [Bool.and_eq_true] at this
      exact this.2
  · intro h
    refine ⟨by have:=h.len;omega,h.live0,h.par0,fun k r hr=>?_,h.sum⟩
    unfold treeP
    have hm:=List.mem_of_getElem? hr
    cases hl:r.live
    · simp [h.dead r hm hl]
    · simp [h.bal r hm,h.lead k r hr hl]
def held (p:DPart):Int:=((p.heap.arena.take 10).filter objOk).foldl (fun n o=>IntKind.i64.wrap (n+o.pages)) 0
end Go.Kx
/- Plain laws: handles. No program in sight. -/
namespace Go.Kx
open Go
set_option linter.unusedVariables false
set_option linter.unusedSimpArgs false
set_option maxRecDepth 10000
def hOk (h:Int):Bool:=inR h 0 29999
def hPart (h:Int):Int:=if hOk h then h % 3 else -1
def hSlot (h:Int):Int:=if hOk h then h / 3 % 10 else -1
def hGen (h:Int):Int:=if hOk h then h / 3 / 10 else -1
theorem hOk_iff {h:Int}:hOk h=true ↔ 0≤h∧h≤29999:=inR_iff
theorem hdiv {h:Int} (q:hOk h=true):IntKind.i64.wrap (Int.tdiv h 3)=h / 3∧Int.tmod h 3=h % 3∧Int.tmod (h / 3) 10=h / 3 % 10∧IntKind.i64.wrap (Int.tdiv (h / 3) 10)=h / 3 / 10:=by
  rw [hOk_iff] at q
  have h3:0≤h / 3:=by omega
  refine ⟨?_,Int.tmod_eq_emod_of_nonneg q.1,Int.tmod_eq_emod_of_nonneg h3,?_⟩
  · rw [Int.tdiv_eq_ediv_of_nonneg q.1,wrap_ok (by omega) (by omega)]
  · rw [Int.tdiv_eq_ediv_of_nonneg h3,wrap_ok (by omega) (by omega)]
theorem s_HandlePart (N:Nat) (h:Int):F_s_HandlePart N h=some (hPart h):=by
  unfold F_s_HandlePart hPart
  rw [s_l8Handle,Option.bind_some]
  cases q:inR h 0 29999
  · simp [hOk,q]
  · simp [hOk,q,(hdiv (h:=h) q).2.1]
theorem s_HandleSlot (N:Nat) (h:Int):F_s_HandleSlot N h=some (hSlot h):=by
  unfold F_s_HandleSlot hSlot
  rw [s_l8Handle,Option.bind_some]
  cases q:inR h 0 29999
  · simp [hOk,q]
  · simp [hOk,q,(hdiv (h:=h) q).1,(hdiv (h:=h) q).2.2.1]
theorem s_HandleGen (N:Nat) (h:Int):F_s_HandleGen N h=some (hGen h):=by
  unfold F_s_HandleGen hGen
  rw [s_l8Handle,Option.bind_some]
  cases q:inR h 0 29999
  · simp [hOk,q]
  · simp [hOk,q,(hdiv (h:=h) q).1,(hdiv (h:=h) q).2.2.2]
def handleOf (p i g:Int):Int:=if inR p 0 2&&(inR i 0 9&&inR g 0 999) then IntKind.i64.wrap ((IntKind.i64.wrap ((IntKind.i64.wrap ((IntKind.i64.wrap (g * 10))+i)) * 3))+p) else -1
theorem s_HandleOf (N:Nat) (p i g:Int):F_s_HandleOf N p i g=some (handleOf p i g):=by
  unfold F_s_HandleOf handleOf
  simp only [s_l8Slot,s_in,Option.bind_some,bOr]
  cases inR p 0 2 <;> cases inR i 0 9 <;> cases inR g 0 999 <;> rfl
theorem hSlot_rng {h:Int} (q:0≤hPart h):hOk h=true∧0≤hSlot h∧hSlot h≤9:=by
  unfold hPart at q
  unfold hSlot
  cases hk:hOk h
  · simp [hk] at q
  · rw [hOk_iff] at hk
    simp only [if_true]
    exact ⟨trivial,by omega,by omega⟩
end Go.Kx
/- Plain laws: what may run; what is safe to collect. No program in sight. -/
namespace Go.Kx
open Go
set_option linter.unusedVariables false
set_option linter.unusedSimpArgs false
set_option maxRecDepth 10000
theorem treeLen {t:List DRes} (h:treeOk t=true):t.length=5:=(treeOk_iff.1 h).len
def resOf (p:DPart) (i:Int):Int:=if treeOk p.tree&&liveAt p.tree i then i else 0
theorem liveAt_rng {t:List DRes} {i:Int} (h:liveAt t i=true):0≤i∧i≤4:=by
  unfold liveAt at h
  simp only [Bool.and_eq_true,inR_iff] at h
  exact h.1
theorem resOf_rng (p:DPart) (i:Int):0≤resOf p i∧resOf p i≤4:=by
  unfold resOf
  split
  · rename_i h
    simp only [Bool.and_eq_true] at h
    exact liveAt_rng h.2
  · omega
theorem i_ResOf {N:Nat} (hN:BIG≤N) (p:DPart) (i:Int):F_i_ResOf N p i=some (resOf p i):=by
  unfold F_i_ResOf resOf
  rw [i_TreeOk hN,Option.bind_some]
  cases h:treeOk p.tree
  · rfl
  · simp only [Bool.not_true,cond_false,i_isLive N (treeLen h),Option.bind_some,Bool.true_and]
    cases liveAt p.tree i <;> rfl
theorem s_l6Live {N:Nat} (hN:BIG≤N) (t:List DRes) (i:Int):F_s_l6Live N t i=some (treeOk t&&liveAt t i):=by
  unfold F_s_l6Live liveAt
  simp only [s_TreeOk hN,s_l6Res,Option.bind_some]
  cases h:treeOk t
  · rfl
  have hl:=treeLen h
  cases hi:inR i 0 4
  · rfl
  · simp only [cond_true,idx_in hi (by omega) (show (4:Int)<(t.length:Int) by omega),Option.bind_some,Bool.true_and]
theorem s_ResOf {N:Nat} (hN:BIG≤N) (p:DPart) (i:Int):F_s_ResOf N p i=some (resOf p i):=by
  unfold F_s_ResOf resOf
  rw [s_l6Live hN,Option.bind_some]
  cases (treeOk p.tree&&liveAt p.tree i) <;> rfl
theorem partOk_tree {p:DPart} (h:partOk p=true):treeOk p.tree=true:=by
  unfold partOk at h
  simp only [Bool.and_eq_true] at h
  exact h.2.2.1
theorem treeIdx {p:DPart} (h:partOk p=true) {i:Int} (h0:0≤i) (h4:i≤4):idx p.tree i=some (nth p.tree i):=idx_ok h0 (by have:=treeLen (partOk_tree h);omega)
def balAt (p:DPart) (i:Int):DAmt:=(nth p.tree (resOf p (nth p.heap.arena i).res)).bal
theorem i_balOf {N:Nat} (hN:BIG≤N) {p:DPart} (h:partOk p=true) {i:Int} (h0:0≤i) (h9:i≤9):F_i_balOf N p i=some (balAt p i):=by
  unfold F_i_balOf balAt
  obtain ⟨r0,r4⟩:=resOf_rng p (nth p.heap.arena i).res
  simp only [((partOk_ar h).at h0 h9).1,Option.bind_some,i_ResOf hN,treeIdx h r0 r4]
end Go.Kx
