/- Plain laws: a collector's step; what is collected. No program in sight. -/
import Derived.Test.YtgekpkkhelmgiaaGreatLStep
namespace Go.Kx
open Go
set_option linter.unusedVariables false
set_option linter.unusedSimpArgs false
set_option maxRecDepth 10000
def shade (h:DHeap) (k:Int):DHeap :=
  if (h.gc.phase==0)&&(((nth h.arena k).kind != 0)&&!(nth h.arena k).mark) then
    DHeap.mk (h.arena.set k.toNat (marked (nth h.arena k) true)) (DGc.mk h.gc.phase h.gc.pos h.gc.round (if h.gc.grey.contains k then h.gc.grey else h.gc.grey++[k]))
  else h
theorem appB {l:List Int} {k:Int} (h:l.length+1<BIG):app l [k]=some (l++[k]):=by
  unfold app;rw [if_pos (by simpa using h)]
theorem i_shade {N:Nat} (hN:BIG≤N) {h:DHeap} {k:Int} (h0:0≤k) (h1:k<(h.arena.length:Int)) (hg:h.gc.grey.length+1<BIG):F_i_shade N h k=some (shade h k):=by
  have hg':h.gc.grey.length<BIG:=by omega
  unfold F_i_shade shade
  rw [← Bool.cond_eq_ite]
  simp only [idx_ok (l:=h.arena) h0 h1,z_Contains hN hg',appB hg,Option.bind_some,bne]
  cases h.gc.phase==0
  · rfl
  cases (nth h.arena k).kind==0
  · cases (nth h.arena k).mark
    · cases h.gc.grey.contains k <;> rfl
    · rfl
  · rfl
theorem s_l10Shade {N:Nat} (hN:BIG≤N) {h:DHeap} {k:Int} (h0:0≤k) (h1:k<(h.arena.length:Int)) (hg:h.gc.grey.length+1<BIG):F_s_l10Shade N h k=some (shade h k):=by
  have hg':h.gc.grey.length<BIG:=by omega
  unfold F_s_l10Shade shade
  rw [← Bool.cond_eq_ite]
  simp only [idx_ok (l:=h.arena) h0 h1,s_l4Has hN hg',appB hg,Option.bind_some,bne]
  cases h.gc.phase==0
  · rfl
  cases (nth h.arena k).kind==0
  · cases (nth h.arena k).mark
    · cases h.gc.grey.contains k <;> rfl
    · rfl
  · rfl
theorem shade_grey (h:DHeap) (k:Int):(shade h k).gc.grey.length≤h.gc.grey.length+1:=by
  unfold shade
  split
  · simp only
    split
    · exact Nat.le_succ _
    · simp
  · exact Nat.le_succ _
def ht (h:DHeap):List DObj×Int×Int×Int×List Int:=(h.arena,h.gc.phase,h.gc.pos,h.gc.round,h.gc.grey)
def sweepFree (h:DHeap) (now:Int):Bool:=(h.gc.pos != 0)&&(((nth h.arena h.gc.pos).kind != 0)&&(expired (nth h.arena h.gc.pos) now || !(nth h.arena h.gc.pos).mark))
def swept (h:DHeap) (now:Int):List DObj:=if sweepFree h now then (arenaFree h.arena h.gc.pos).1 else h.arena.set h.gc.pos.toNat (marked (nth h.arena h.gc.pos) false)
theorem sumL_same {α:Type} {f:α→Nat} {z:α}:∀ {l:List α} {k:Nat} {y:α},l[k]?=some y→f z=f y→sumL f (l.set k z)=sumL f l
  | x::l,0,y,h,e=>by simp at h;subst h;simp [sumL,e]
  | x::l,k+1,y,h,e=>by
    simp only [List.set_cons_succ,sumL]
    rw [sumL_same (l:=l) (k:=k) (y:=y) (by simpa using h) e]
theorem szL_same {l:List DObj} {i:Int} {z:DObj} (h0:0≤i) (h1:i<(l.length:Int)) (e:sz_DObj z=sz_DObj (nth l i)):szL sz_DObj (l.set i.toNat z)=szL sz_DObj l:=by
  unfold szL
  rw [sumL_same (nth_get h0 h1) e,List.length_set]
end Go.Kx
