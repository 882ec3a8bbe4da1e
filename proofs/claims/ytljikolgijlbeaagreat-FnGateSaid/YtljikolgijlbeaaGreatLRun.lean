/- Plain laws: what may run; what is safe to collect. No program in sight. -/
import Derived.Test.YtljikolgijlbeaaGreatLSum
namespace Go.Kx
open Go
set_option linter.unusedVariables false
set_option linter.unusedSimpArgs false
set_option maxRecDepth 10000
theorem treeLen {t:List DRes} (h:treeOk t=true):t.length=5:=(treeOk_iff.1 h).len
def resOf (p:DPart) (i:Int):Int:=if treeOk p.tree&&liveAt p.tree i then i else 0
theorem liveAt_rng {t:List DRes} {i:Int} (h:liveAt t i=true):0≤i∧i≤4:=by
  unfold liveAt at h
  simp only [Bool.and_eq_true,inR_iff] at h
  exact h.1
theorem resOf_rng (p:DPart) (i:Int):0≤resOf p i∧resOf p i≤4:=by
  unfold resOf
  split
  · rename_i h
    simp only [Bool.and_eq_true] at h
    exact liveAt_rng h.2
  · omega
theorem i_ResOf {N:Nat} (hN:BIG≤N) (p:DPart) (i:Int):F_i_ResOf N p i=some (resOf p i):=by
  unfold F_i_ResOf resOf
  rw [i_TreeOk hN,Option.bind_some]
  cases h:treeOk p.tree
  · rfl
  · simp only [Bool.not_true,cond_false,i_isLive N (treeLen h),Option.bind_some,Bool.true_and]
    cases liveAt p.tree i <;> rfl
theorem partOk_tree {p:DPart} (h:partOk p=true):treeOk p.tree=true:=by
  unfold partOk at h
  simp only [Bool.and_eq_true] at h
  exact h.2.2.1
theorem treeIdx {p:DPart} (h:partOk p=true) {i:Int} (h0:0≤i) (h4:i≤4):idx p.tree i=some (nth p.tree i):=idx_ok h0 (by have:=treeLen (partOk_tree h);omega)
def balAt (p:DPart) (i:Int):DAmt:=(nth p.tree (resOf p (nth p.heap.arena i).res)).bal
theorem i_balOf {N:Nat} (hN:BIG≤N) {p:DPart} (h:partOk p=true) {i:Int} (h0:0≤i) (h9:i≤9):F_i_balOf N p i=some (balAt p i):=by
  unfold F_i_balOf balAt
  obtain ⟨r0,r4⟩:=resOf_rng p (nth p.heap.arena i).res
  simp only [((partOk_ar h).at h0 h9).1,Option.bind_some,i_ResOf hN,treeIdx h r0 r4]
def mayRun (p:DPart) (i:Int):Bool:=((nth p.heap.arena i).wait==0)&&decide ((balAt p i).cpu > 0)
def runnable (p:DPart) (now:Int):List Int:=(threads p now).filter (mayRun p)
theorem runnable_len (p:DPart) (now:Int):(runnable p now).length≤10:=by
  unfold runnable
  refine Nat.le_trans (List.length_filter_le _ _) ?_
  unfold threads
  split
  · rename_i hp
    refine Nat.le_trans (collI_len _ _ _ _) ?_
    rw [reach_len (partOk_ar hp)];exact Nat.le_refl _
  · exact Nat.zero_le _
theorem i_Runnable {N:Nat} (hN:BIG≤N) {p:DPart} (hb:sz_DPart p<BIG) (now:Int):F_i_Runnable N p now=some (runnable p now):=by
  have hl:=threads_len p now
  unfold F_i_Runnable runnable
  rw [i_Threads hN hb,Option.bind_some,iter_coll (threads p now) (fun _ i=>mayRun p i) (fun _ y=>y) hl hN,collI_filter]
  · rfl
  · intro k t y hy hk ht
    obtain ⟨hp,y0,y9⟩:=threads_rng (List.mem_of_getElem? hy)
    simp only [lt_dec hk,cond_true,idx_nat,hy,Option.bind_some,((partOk_ar hp).at y0 y9).1,i_balOf hN hp y0 y9,bAnd,wrap1 (Nat.lt_trans hk hl),app1 ht (Nat.lt_of_le_of_lt hk hl)]
    show (bif mayRun p y then _ else _)=_
    cases mayRun p y <;> rfl
  · intro t
    simp only [ge_dec,cond_false]
end Go.Kx
