/- What the laws' own helpers do: room, copies, comparisons, marks. Printed by genlaw.py. -/
import Derived.Test.YtikeaiogpfjdnaaGreatLaw
import Derived.Test.YtikeaiogpfjdnaaGreatPu
namespace Go.Kx
open Go
set_option linter.unusedVariables false
set_option linter.unusedSimpArgs false
set_option maxRecDepth 10000
def lA (x:jC):Nat:=x.levels.length+(0)
def kI (x:jY):Nat:=lA x.label+(x.own.length+(0))
def iA (x:bh):Nat:=x.ig.length+(x.data.length+(x.queue.length+(0)))
def tj (x:jz):Nat:=x.ia.length+(0)
def ox (x:iv):Nat:=jl iA x.ag+(tj x.gc+(0))
def jh (x:gE):Nat:=lA x.label+(x.own.length+(x.tree.length+(ox x.heap+(x.ic.length+(0)))))
end Go.Kx
