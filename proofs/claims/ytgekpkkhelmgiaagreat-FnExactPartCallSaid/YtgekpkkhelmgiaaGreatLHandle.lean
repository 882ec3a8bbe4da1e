/- Plain laws: handles. No program in sight. -/
import Derived.Test.YtgekpkkhelmgiaaGreatLSum
namespace Go.Kx
open Go
set_option linter.unusedVariables false
set_option linter.unusedSimpArgs false
set_option maxRecDepth 10000
def hOk (h:Int):Bool:=inR h 0 29999
def hPart (h:Int):Int:=if hOk h then h % 3 else -1
def hSlot (h:Int):Int:=if hOk h then h / 3 % 10 else -1
def hGen (h:Int):Int:=if hOk h then h / 3 / 10 else -1
theorem hOk_iff {h:Int}:hOk h=true ↔ 0≤h∧h≤29999:=inR_iff
theorem hdiv {h:Int} (q:hOk h=true):IntKind.i64.wrap (Int.tdiv h 3)=h / 3∧Int.tmod h 3=h % 3∧Int.tmod (h / 3) 10=h / 3 % 10∧IntKind.i64.wrap (Int.tdiv (h / 3) 10)=h / 3 / 10:=by
  rw [hOk_iff] at q
  have h3:0≤h / 3:=by omega
  refine ⟨?_,Int.tmod_eq_emod_of_nonneg q.1,Int.tmod_eq_emod_of_nonneg h3,?_⟩
  · rw [Int.tdiv_eq_ediv_of_nonneg q.1,wrap_ok (by omega) (by omega)]
  · rw [Int.tdiv_eq_ediv_of_nonneg h3,wrap_ok (by omega) (by omega)]
theorem i_HandlePart (N:Nat) (h:Int):F_i_HandlePart N h=some (hPart h):=by
  unfold F_i_HandlePart hPart
  rw [i_isHandle,Option.bind_some]
  cases q:inR h 0 29999
  · simp [hOk,q]
  · simp [hOk,q,(hdiv (h:=h) q).2.1]
theorem s_HandlePart (N:Nat) (h:Int):F_s_HandlePart N h=some (hPart h):=by
  unfold F_s_HandlePart hPart
  rw [s_l8Handle,Option.bind_some]
  cases q:inR h 0 29999
  · simp [hOk,q]
  · simp [hOk,q,(hdiv (h:=h) q).2.1]
theorem i_HandleSlot (N:Nat) (h:Int):F_i_HandleSlot N h=some (hSlot h):=by
  unfold F_i_HandleSlot hSlot
  rw [i_isHandle,Option.bind_some]
  cases q:inR h 0 29999
  · simp [hOk,q]
  · simp [hOk,q,(hdiv (h:=h) q).1,(hdiv (h:=h) q).2.2.1]
theorem s_HandleSlot (N:Nat) (h:Int):F_s_HandleSlot N h=some (hSlot h):=by
  unfold F_s_HandleSlot hSlot
  rw [s_l8Handle,Option.bind_some]
  cases q:inR h 0 29999
  · simp [hOk,q]
  · simp [hOk,q,(hdiv (h:=h) q).1,(hdiv (h:=h) q).2.2.1]
theorem i_HandleGen (N:Nat) (h:Int):F_i_HandleGen N h=some (hGen h):=by
  unfold F_i_HandleGen hGen
  rw [i_isHandle,Option.bind_some]
  cases q:inR h 0 29999
  · simp [hOk,q]
  · simp [hOk,q,(hdiv (h:=h) q).1,(hdiv (h:=h) q).2.2.2]
theorem s_HandleGen (N:Nat) (h:Int):F_s_HandleGen N h=some (hGen h):=by
  unfold F_s_HandleGen hGen
  rw [s_l8Handle,Option.bind_some]
  cases q:inR h 0 29999
  · simp [hOk,q]
  · simp [hOk,q,(hdiv (h:=h) q).1,(hdiv (h:=h) q).2.2.2]
def handleOf (p i g:Int):Int:=if inR p 0 2&&(inR i 0 9&&inR g 0 999) then IntKind.i64.wrap ((IntKind.i64.wrap ((IntKind.i64.wrap ((IntKind.i64.wrap (g * 10))+i)) * 3))+p) else -1
theorem i_HandleOf (N:Nat) (p i g:Int):F_i_HandleOf N p i g=some (handleOf p i g):=by
  unfold F_i_HandleOf handleOf
  simp only [i_isPart,i_isSlot,i_in,Option.bind_some,bOr]
  cases inR p 0 2 <;> cases inR i 0 9 <;> cases inR g 0 999 <;> rfl
theorem s_HandleOf (N:Nat) (p i g:Int):F_s_HandleOf N p i g=some (handleOf p i g):=by
  unfold F_s_HandleOf handleOf
  simp only [s_l8Slot,s_in,Option.bind_some,bOr]
  cases inR p 0 2 <;> cases inR i 0 9 <;> cases inR g 0 999 <;> rfl
theorem hSlot_rng {h:Int} (q:0≤hPart h):hOk h=true∧0≤hSlot h∧hSlot h≤9:=by
  unfold hPart at q
  unfold hSlot
  cases hk:hOk h
  · simp [hk] at q
  · rw [hOk_iff] at hk
    simp only [if_true]
    exact ⟨trivial,by omega,by omega⟩
end Go.Kx
