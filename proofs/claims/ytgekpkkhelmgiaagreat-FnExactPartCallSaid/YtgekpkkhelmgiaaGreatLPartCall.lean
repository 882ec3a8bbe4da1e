/- The plain law of 'FnExactPartCall'. No program in sight. -/
import Derived.Test.YtgekpkkhelmgiaaGreatLCall
namespace Go.Kx
open Go
set_option linter.unusedVariables false
set_option linter.unusedSimpArgs false
set_option maxRecDepth 10000
theorem L_FnExactPartCall {p:DPart} {me now th:Int} {c:DCall} (hp:Fit.fit p) (h1:Fit.fit me) (h2:Fit.fit now) (h3:Fit.fit th) (h4:Fit.fit c):∃ N,F_l_FnExactPartCall N p me now th c=some true:=by
  suffices h:∀ N,BIG+1≤N→F_l_FnExactPartCall N p me now th c=some true from ⟨BIG+1,h (BIG+1) (Nat.le_refl _)⟩
  intro N hN'
  have hN:BIG≤N:=Nat.le_of_succ_le hN'
  unfold F_l_FnExactPartCall
  refine guard (by decide) (by decide) (r_DPart hN (by decide) (by decide) hp) fun b h0 h1 hs=>?_
  have hb:sz_DPart p<BIG:=small hs
  have hb3:sz_DPart p≤3000000:=by omega
  obtain ⟨s0,_⟩:=call_in hb3 (fit_wP hp) me now th c
  simp only [t_DPart hN hb,t_DCall,s_PartCall hN hb3 (fit_wP hp),i_PartCall hN' hb3 (fit_wP hp),e_DPart hN hb,Option.bind_some]
  generalize hq:partCall p me now th c=r at *
  obtain ⟨q,v⟩:=r
  simp only at s0 ⊢
  have b2:sz_DPart q<BIG:=by have:(16777216:Nat)=BIG:=rfl;omega
  have s1:=sle_Int p.label.levels
  have s2:=sle_Int p.own
  have s3:=sle_DRes p.tree
  have s4:=sle_DObj p.heap.arena
  have s5:=sle_Int p.heap.gc.grey
  have s6:=sle_DTap p.taps
  have t1:=sle_Int q.label.levels
  have t2:=sle_Int q.own
  have t3:=sle_DRes q.tree
  have t4:=sle_DObj q.heap.arena
  have t5:=sle_Int q.heap.gc.grey
  have t6:=sle_DTap q.taps
  have z1:p.label.levels.length+p.own.length+p.tree.length+szL sz_DObj p.heap.arena+p.heap.gc.grey.length+p.taps.length≤sz_DPart p:=by unfold sz_DPart sz_DHeap sz_DGc sz_DLabel;omega
  have z2:q.label.levels.length+q.own.length+q.tree.length+szL sz_DObj q.heap.arena+q.heap.gc.grey.length+q.taps.length≤sz_DPart q:=by unfold sz_DPart sz_DHeap sz_DGc sz_DLabel;omega
  have n1:decide (1+((sumL c_Int p.label.levels:Nat):Int)+((sumL c_Int p.own:Nat):Int)+((sumL c_DRes p.tree:Nat):Int)+((sumL c_DObj p.heap.arena:Nat):Int)+((sumL c_Int p.heap.gc.grey:Nat):Int)+((sumL c_DTap p.taps:Nat):Int)<0)=false:=decide_eq_false (by omega)
  have n2:decide (1+((sumL c_Int q.label.levels:Nat):Int)+((sumL c_Int q.own:Nat):Int)+((sumL c_DRes q.tree:Nat):Int)+((sumL c_DObj q.heap.arena:Nat):Int)+((sumL c_Int q.heap.gc.grey:Nat):Int)+((sumL c_DTap q.taps:Nat):Int)<0)=false:=decide_eq_false (by omega)
  simp only [e_DPart hN b2,Option.bind_some,beq_self_eq_true,bne_self_eq_false,Bool.not_true,cond_false,e_DReply,mark_DPart hN (n:=1) hb (by decide) (by omega),mark_DPart hN (n:=1) b2 (by decide) (by omega),keepL_same (markL_len _ _ _ _),n1,
    held_DPart hN (n:=1) (x:=q) (z:=DPart.mk (DLabel.mk (markL g_Int c_Int (1) q.label.levels)) (markL g_Int c_Int (1+((sumL c_Int q.label.levels:Nat):Int)) q.own) (markL g_DRes c_DRes (1+((sumL c_Int q.label.levels:Nat):Int)+((sumL c_Int q.own:Nat):Int)) q.tree) (DHeap.mk (markL g_DObj c_DObj (1+((sumL c_Int q.label.levels:Nat):Int)+((sumL c_Int q.own:Nat):Int)+((sumL c_DRes q.tree:Nat):Int)) q.heap.arena) (DGc.mk q.heap.gc.phase q.heap.gc.pos q.heap.gc.round (markL g_Int c_Int (1+((sumL c_Int q.label.levels:Nat):Int)+((sumL c_Int q.own:Nat):Int)+((sumL c_DRes q.tree:Nat):Int)+((sumL c_DObj q.heap.arena:Nat):Int)) q.heap.gc.grey))) (markL g_DTap c_DTap (1+((sumL c_Int q.label.levels:Nat):Int)+((sumL c_Int q.own:Nat):Int)+((sumL c_DRes q.tree:Nat):Int)+((sumL c_DObj q.heap.arena:Nat):Int)+((sumL c_Int q.heap.gc.grey:Nat):Int)) q.taps) q.next q.want q.spent q.press q.lost) b2 (by decide) (by omega) rfl rfl rfl rfl rfl rfl,n2]
end Go.Kx
