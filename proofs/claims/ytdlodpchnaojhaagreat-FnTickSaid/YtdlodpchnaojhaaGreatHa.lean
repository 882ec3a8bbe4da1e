/- What the laws' own helpers do: room, copies, comparisons, marks. Printed by genlaw.py. -/
import Derived.Test.YtdlodpchnaojhaaGreatLaw
import Derived.Test.YtdlodpchnaojhaaGreatPu
namespace Go.Kx
open Go
set_option linter.unusedVariables false
set_option linter.unusedSimpArgs false
set_option maxRecDepth 10000
def my (x:j7):Nat:=x.levels.length+(0)
def lp (x:km):Nat:=my x.label+(x.own.length+(0))
def iz (x:cd):Nat:=x.il.length+(x.data.length+(x.queue.length+(0)))
def sf (x:ks):Nat:=x.ia.length+(0)
def mr (x:iA):Nat:=jo iz x.ag+(sf x.gc+(0))
def iG (x:dW):Nat:=my x.label+(x.own.length+(x.tree.length+(mr x.heap+(x.ij.length+(0)))))
def nV (x:iN):Nat:=jo iG x.parts+(0)
end Go.Kx
