/- Plain laws: what may run; what is safe to collect. No program in sight. -/
import Derived.Test.YtgekpkkhelmgiaaGreatLSum
namespace Go.Kx
open Go
set_option linter.unusedVariables false
set_option linter.unusedSimpArgs false
set_option maxRecDepth 10000
theorem treeLen {t:List DRes} (h:treeOk t=true):t.length=5:=(treeOk_iff.1 h).len
def resOf (p:DPart) (i:Int):Int:=if treeOk p.tree&&liveAt p.tree i then i else 0
theorem liveAt_rng {t:List DRes} {i:Int} (h:liveAt t i=true):0≤i∧i≤4:=by
  unfold liveAt at h
  simp only [Bool.and_eq_true,inR_iff] at h
  exact h.1
theorem resOf_rng (p:DPart) (i:Int):0≤resOf p i∧resOf p i≤4:=by
  unfold resOf
  split
  · rename_i h
    simp only [Bool.and_eq_true] at h
    exact liveAt_rng h.2
  · omega
theorem i_ResOf {N:Nat} (hN:BIG≤N) (p:DPart) (i:Int):F_i_ResOf N p i=some (resOf p i):=by
  unfold F_i_ResOf resOf
  rw [i_TreeOk hN,Option.bind_some]
  cases h:treeOk p.tree
  · rfl
  · simp only [Bool.not_true,cond_false,i_isLive N (treeLen h),Option.bind_some,Bool.true_and]
    cases liveAt p.tree i <;> rfl
theorem s_l6Live {N:Nat} (hN:BIG≤N) (t:List DRes) (i:Int):F_s_l6Live N t i=some (treeOk t&&liveAt t i):=by
  unfold F_s_l6Live liveAt
  simp only [s_TreeOk hN,s_l6Res,Option.bind_some]
  cases h:treeOk t
  · rfl
  have hl:=treeLen h
  cases hi:inR i 0 4
  · rfl
  · simp only [cond_true,idx_in hi (by omega) (show (4:Int)<(t.length:Int) by omega),Option.bind_some,Bool.true_and]
theorem s_ResOf {N:Nat} (hN:BIG≤N) (p:DPart) (i:Int):F_s_ResOf N p i=some (resOf p i):=by
  unfold F_s_ResOf resOf
  rw [s_l6Live hN,Option.bind_some]
  cases (treeOk p.tree&&liveAt p.tree i) <;> rfl
theorem partOk_tree {p:DPart} (h:partOk p=true):treeOk p.tree=true:=by
  unfold partOk at h
  simp only [Bool.and_eq_true] at h
  exact h.2.2.1
theorem treeIdx {p:DPart} (h:partOk p=true) {i:Int} (h0:0≤i) (h4:i≤4):idx p.tree i=some (nth p.tree i):=idx_ok h0 (by have:=treeLen (partOk_tree h);omega)
def balAt (p:DPart) (i:Int):DAmt:=(nth p.tree (resOf p (nth p.heap.arena i).res)).bal
theorem i_balOf {N:Nat} (hN:BIG≤N) {p:DPart} (h:partOk p=true) {i:Int} (h0:0≤i) (h9:i≤9):F_i_balOf N p i=some (balAt p i):=by
  unfold F_i_balOf balAt
  obtain ⟨r0,r4⟩:=resOf_rng p (nth p.heap.arena i).res
  simp only [((partOk_ar h).at h0 h9).1,Option.bind_some,i_ResOf hN,treeIdx h r0 r4]
end Go.Kx
