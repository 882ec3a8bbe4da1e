/- Plain laws: sizes of what is right; a thing put into an arena; what is born. No program in sight. -/
import Derived.Test.YtljikolgijlbeaaGreatLReach
namespace Go.Kx
open Go
set_option linter.unusedVariables false
set_option linter.unusedSimpArgs false
set_option maxRecDepth 10000
theorem sumL_le {α:Type} {f:α→Nat} {c:Nat}:∀ {l:List α},(∀ y,y ∈ l→f y≤c)→sumL f l≤c * l.length
  | [],_=>Nat.zero_le _
  | y::l,h=>by
    have h1:=h y (by simp)
    have h2:=sumL_le (l:=l) fun z hz=>h z (by simp [hz])
    simp only [sumL,List.length_cons,Nat.mul_add];omega
theorem sumL_set {α:Type} {f:α→Nat} {y:α}:∀ {l:List α} {k:Nat},sumL f (l.set k y)≤sumL f l+f y
  | [],k=>by simp [sumL]
  | z::l,0=>by simp only [List.set_cons_zero,sumL];omega
  | z::l,k+1=>by
    have:=sumL_set (f:=f) (y:=y) (l:=l) (k:=k)
    simp only [List.set_cons_succ,sumL];omega
theorem szL_set {α:Type} {f:α→Nat} {y:α} {l:List α} {k:Nat}:szL f (l.set k y)≤szL f l+f y:=by
  have:=sumL_set (f:=f) (y:=y) (l:=l) (k:=k)
  unfold szL
  simp only [List.length_set];omega
theorem objOk_sz {o:DObj} (h:objOk o=true):sz_DObj o≤12:=by
  have hl:=(objOk_links h).1
  unfold objOk at h
  unfold sz_DObj
  cases hk:o.kind==0
  · simp only [hk,cond_false,Bool.and_eq_true] at h
    obtain ⟨_,_,_,_,_,hp,hl2,_⟩:=h
    unfold listsOk at hl2
    simp only [Bool.and_eq_true,decide_eq_true_eq,beq_iff_eq] at hl2
    obtain ⟨_,_,_,_,hd,hq⟩:=hl2
    rw [inR_iff] at hp
    have:o.data.length≤8:=by
      cases h2:o.kind==2
      · rw [h2] at hd;simp only [cond_false] at hd;omega
      · rw [h2] at hd;simp only [cond_true] at hd;omega
    have:o.queue.length≤2:=by
      cases h3:o.kind==3
      · rw [h3] at hq;simp only [cond_false] at hq;omega
      · rw [h3] at hq;simp only [cond_true] at hq;omega
    omega
  · simp only [hk,cond_true,Bool.and_eq_true,decide_eq_true_eq] at h
    rw [h.2.2];simp [blank]
theorem Ar.sz {l:List DObj} (h:Ar l):szL sz_DObj l≤130:=by
  have h1:=sumL_le (f:=sz_DObj) (c:=12) fun y hy=>objOk_sz (h.ok y hy)
  have h2:=h.len
  unfold szL
  rw [h2] at h1 ⊢
  omega
theorem wA_set {l:List DObj} {k:Nat} {o:DObj} (h:wA l) (ho:wOk o):wA (l.set k o):=fun y hy=>by
  rcases List.mem_or_eq_of_mem_set hy with q | q
  · exact h y q
  · rw [q];exact ho
def marked (o:DObj) (m:Bool):DObj:=DObj.mk o.gen o.kind o.box o.res o.til o.pages o.wait o.got o.ran m o.links o.data o.queue
end Go.Kx
