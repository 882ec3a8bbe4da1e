/- What the laws' own helpers do: room, copies, comparisons, marks. Printed by genlaw.py. -/
import Derived.Test.YtikeaiogpfjdnaaGreatLaw
import Derived.Test.YtikeaiogpfjdnaaGreatPu
namespace Go.Kx
open Go
set_option linter.unusedVariables false
set_option linter.unusedSimpArgs false
set_option maxRecDepth 10000
def sz_DLabel (x:DLabel):Nat:=x.levels.length+(0)
def sz_DBoot (x:DBoot):Nat:=sz_DLabel x.label+(x.own.length+(0))
def sz_DObj (x:DObj):Nat:=x.links.length+(x.data.length+(x.queue.length+(0)))
def sz_DGc (x:DGc):Nat:=x.grey.length+(0)
def sz_DHeap (x:DHeap):Nat:=szL sz_DObj x.arena+(sz_DGc x.gc+(0))
def sz_DPart (x:DPart):Nat:=sz_DLabel x.label+(x.own.length+(x.tree.length+(sz_DHeap x.heap+(x.taps.length+(0)))))
end Go.Kx
