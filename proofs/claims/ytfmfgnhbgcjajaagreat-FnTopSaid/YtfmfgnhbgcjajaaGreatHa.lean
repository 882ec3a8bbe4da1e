import Derived.Test.YtfmfgnhbgcjajaaGreatLaw
import Derived.Test.YtfmfgnhbgcjajaaGreatPu
namespace Go.Kx
open Go
set_option linter.unusedVariables false
set_option linter.unusedSimpArgs false
set_option maxRecDepth 10000
def jx(x:fD):Nat:=x.Rb.length+(0)
def fh(x:eh):Nat:=jx x.Rd+(x.own.length+(0))
def dA(x:c6):Nat:=x.dp.length+(x.Ri.length+(x.Rf.length+(0)))
def vP(x:eT):Nat:=x.da.length+(0)
def mw(x:df):Nat:=eK dA x.ag+(vP x.gc+(0))
def dG(x:bh):Nat:=jx x.Rd+(x.own.length+(x.Re.length+(mw x.heap+(x.dc.length+(0)))))
end Go.Kx
