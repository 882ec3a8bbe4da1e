/- What the laws' own helpers do: room, copies, comparisons, marks. Printed by genlaw.py. -/
import Derived.Test.YtikeaiogpfjdnaaGreatLaw
import Derived.Test.YtikeaiogpfjdnaaGreatPu
namespace Go.Kx
open Go
set_option linter.unusedVariables false
set_option linter.unusedSimpArgs false
set_option maxRecDepth 10000
def lQ (x:jf):Nat:=x.levels.length+(0)
def kT (x:ka):Nat:=lQ x.label+(x.own.length+(0))
def iD (x:cd):Nat:=x.ij.length+(x.data.length+(x.queue.length+(0)))
def tY (x:jr):Nat:=x.ia.length+(0)
def oW (x:ir):Nat:=jo iD x.ag+(tY x.gc+(0))
def jd (x:hZ):Nat:=lQ x.label+(x.own.length+(x.tree.length+(oW x.heap+(x.ic.length+(0)))))
end Go.Kx
