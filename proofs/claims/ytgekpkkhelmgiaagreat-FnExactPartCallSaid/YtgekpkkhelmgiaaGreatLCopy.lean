/- Plain laws: copies are what they copy. No program in sight. -/
import Derived.Test.YtgekpkkhelmgiaaGreatLSame
namespace Go.Kx
open Go
set_option linter.unusedVariables false
set_option linter.unusedSimpArgs false
set_option maxRecDepth 10000
theorem appN {α:Type} {l:List α} (h:l.length<BIG):app ([]:List α) l=some l:=by
  unfold app;rw [if_pos (by simpa using h)];rfl
theorem i_copyInts {N:Nat} {l:List Int} (h:l.length<BIG):F_i_copyInts N l=some l:=by unfold F_i_copyInts;rw [appN h];rfl
theorem i_copyLabel {N:Nat} {l:DLabel} (h:l.levels.length<BIG):F_i_copyLabel N l=some l:=by unfold F_i_copyLabel;rw [i_copyInts h];rfl
theorem i_copyTree {N:Nat} {l:List DRes} (h:l.length<BIG):F_i_copyTree N l=some l:=by unfold F_i_copyTree;rw [appN h];rfl
theorem s_l6Copy {N:Nat} {l:List DRes} (h:l.length<BIG):F_s_l6Copy N l=some l:=by unfold F_s_l6Copy;rw [appN h];rfl
theorem i_copyObj {N:Nat} {o:DObj} (h:sz_DObj o<BIG):F_i_copyObj N o=some o:=by
  obtain ⟨h1,h2,h3⟩:=szObj h
  unfold F_i_copyObj
  simp only [i_copyInts h1,i_copyInts h2,appN h3,Option.bind_some]
theorem s_l8Obj {N:Nat} {o:DObj} (h:sz_DObj o<BIG):F_s_l8Obj N o=some o:=by
  obtain ⟨h1,h2,h3⟩:=szObj h
  unfold F_s_l8Obj
  simp only [appN h1,appN h2,appN h3,Option.bind_some]
theorem i_copyArena {N:Nat} (hN:BIG≤N) {l:List DObj} (hb:szL sz_DObj l<BIG):F_i_copyArena N l=some l:=by
  have hl:=szL_len hb
  unfold F_i_copyArena
  rw [iter_coll l (fun _ _=>true) (fun _ y=>y) hl hN,collI_filter (fun _=>true)]
  · simp
  · intro k t y hy hk ht
    simp only [lt_dec hk,cond_true,idx_nat,hy,Option.bind_some,i_copyObj (szL_mem hb (List.mem_of_getElem? hy)),wrap1 (Nat.lt_trans hk hl),app1 ht (Nat.lt_of_le_of_lt hk hl)]
    rfl
  · intro t
    simp only [ge_dec,cond_false]
theorem s_l8Copy {N:Nat} (hN:BIG≤N) {l:List DObj} (hb:szL sz_DObj l<BIG):F_s_l8Copy N l=some l:=by
  have hl:=szL_len hb
  unfold F_s_l8Copy
  rw [iter_coll l (fun _ _=>true) (fun _ y=>y) hl hN,collI_filter (fun _=>true)]
  · simp
  · intro k t y hy hk ht
    simp only [lt_dec hk,cond_true,idx_nat,hy,Option.bind_some,s_l8Obj (szL_mem hb (List.mem_of_getElem? hy)),wrap1 (Nat.lt_trans hk hl),app1 ht (Nat.lt_of_le_of_lt hk hl)]
    rfl
  · intro t
    simp only [ge_dec,cond_false]
theorem i_copyHeap {N:Nat} (hN:BIG≤N) {h:DHeap} (h1:szL sz_DObj h.arena<BIG) (h2:h.gc.grey.length<BIG):F_i_copyHeap N h=some h:=by
  unfold F_i_copyHeap
  simp only [i_copyArena hN h1,i_copyInts h2,Option.bind_some]
theorem s_l10Copy {N:Nat} (hN:BIG≤N) {h:DHeap} (h1:szL sz_DObj h.arena<BIG) (h2:h.gc.grey.length<BIG):F_s_l10Copy N h=some h:=by
  unfold F_s_l10Copy
  simp only [s_l8Copy hN h1,appN h2,Option.bind_some]
theorem i_copyPart {N:Nat} (hN:BIG≤N) {p:DPart} (h:sz_DPart p<BIG):F_i_copyPart N p=some p:=by
  obtain ⟨h1,h2,h3,h4,h5,h6⟩:=szPart h
  unfold F_i_copyPart
  simp only [i_copyLabel h1,i_copyInts h2,i_copyTree h3,i_copyHeap hN h4 h5,appN h6,Option.bind_some]
theorem s_l13Copy {N:Nat} (hN:BIG≤N) {p:DPart} (h:sz_DPart p<BIG):F_s_l13Copy N p=some p:=by
  obtain ⟨h1,h2,h3,h4,h5,h6⟩:=szPart h
  unfold F_s_l13Copy
  simp only [appN h1,appN h2,s_l6Copy h3,s_l10Copy hN h4 h5,appN h6,Option.bind_some]
theorem sub_take {α:Type} {l:List α} {k:Nat} (h:k≤l.length):sub l 0 (k:Int)=some (l.take k):=by
  unfold sub
  rw [if_pos ⟨Int.le_refl _,by omega,by omega⟩]
  simp
end Go.Kx
