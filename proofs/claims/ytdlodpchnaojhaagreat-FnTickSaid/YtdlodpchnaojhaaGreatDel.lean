/- 'slices.Delete': what of a list is cut out; the cells behind are made zero. No program in sight. -/
import Derived.Test.YtdlodpchnaojhaaGreatGo
namespace Go.Kx
open Go Go.RowKit
set_option linter.unusedVariables false
set_option linter.unusedSimpArgs false
section
variable {α:Type} [iB α] {P:Program} {n:Nat} {Q:lL} {e:Env} {w w0:World} {F0:List Nat} {L:List Item} {ops:Array Oper} {rest:List Oper} {ty:TypeId} {pos:String} {aft:Array Edge} {d:Nat}
end
end Go.Kx
