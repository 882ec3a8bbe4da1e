/- Plain laws: taps. No program in sight. -/
import Derived.Test.YtkgkknholfmgiaaGreatLStep
namespace Go.Kx
open Go
set_option linter.unusedVariables false
set_option linter.unusedSimpArgs false
set_option maxRecDepth 10000
def amtPart (a:DAmt) (w:Int):Int:=if w==0 then a.pages else if w==1 then a.rent else if w==2 then a.cpu else 0
theorem s_AmtPart (N:Nat) (a:DAmt) (w:Int):F_s_AmtPart N a w=some (amtPart a w):=by
  unfold F_s_AmtPart amtPart
  cases w==0 <;> cases w==1 <;> cases w==2 <;> rfl
end Go.Kx
