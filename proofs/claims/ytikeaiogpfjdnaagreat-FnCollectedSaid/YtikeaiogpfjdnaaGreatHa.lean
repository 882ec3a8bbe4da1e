/- What the laws' own helpers do: room, copies, comparisons, marks. Printed by genlaw.py. -/
import Derived.Test.YtikeaiogpfjdnaaGreatLaw
import Derived.Test.YtikeaiogpfjdnaaGreatPu
namespace Go.Kx
open Go
set_option linter.unusedVariables false
set_option linter.unusedSimpArgs false
set_option maxRecDepth 10000
def l6 (x:jJ):Nat:=x.levels.length+(0)
def qX (x:pN):Nat:=l6 x.label+(x.own.length+(0))
def iu (x:bh):Nat:=x.ib.length+(x.data.length+(x.queue.length+(0)))
def oH (x:jH):Nat:=x.gE.length+(0)
def ml (x:ic):Nat:=jr iu x.ag+(oH x.gc+(0))
def je (x:ia):Nat:=l6 x.label+(x.own.length+(x.tree.length+(ml x.heap+(x.iz.length+(0)))))
end Go.Kx
