/- Plain laws: the first draws come to an end. No program in sight. -/
import Derived.Test.YtljikolgijlbeaaGreatLBoot
namespace Go.Kx
open Go
set_option linter.unusedVariables false
set_option linter.unusedSimpArgs false
set_option maxRecDepth 10000
theorem idx_ex {α:Type} {l:List α} {i:Int} (h0:0≤i) (h1:i<(l.length:Int)):∃ y,idx l i=some y∧y ∈ l:=by
  have hz:l[i.toNat]?=some (l[i.toNat]'(by omega)):=List.getElem?_eq_getElem _
  exact ⟨_,by unfold idx;rw [if_pos h0,hz],List.getElem_mem _⟩
def Cu (c:DCur):Prop:=c.b.length≤1048576∧0≤c.i
theorem Cu.to {c:DCur} (hc:Cu c) {i h:Int} (hi:0≤i):Cu ⟨c.b,i,h⟩:=⟨hc.1,hi⟩
theorem tmod_rng {a n:Int} (ha:0≤a) (hn:0<n):0≤Int.tmod a n∧Int.tmod a n<n:=by
  rw [Int.tmod_eq_emod_of_nonneg ha]
  exact ⟨Int.emod_nonneg _ (by omega),Int.emod_lt_of_pos _ hn⟩
end Go.Kx
