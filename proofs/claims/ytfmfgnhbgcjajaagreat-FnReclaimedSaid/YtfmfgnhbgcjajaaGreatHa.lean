import Derived.Test.YtfmfgnhbgcjajaaGreatLaw
import Derived.Test.YtfmfgnhbgcjajaaGreatPu
namespace Go.Kx
open Go
set_option linter.unusedVariables false
set_option linter.unusedSimpArgs false
set_option maxRecDepth 10000
def jz(x:fF):Nat:=x.Rf.length+(0)
def fB(x:er):Nat:=jz x.Rg+(x.own.length+(0))
def dA(x:cd):Nat:=x.dk.length+(x.Rm.length+(x.Ri.length+(0)))
def vQ(x:eS):Nat:=x.da.length+(0)
def mH(x:df):Nat:=eQ dA x.ag+(vQ x.gc+(0))
def dH(x:bh):Nat:=jz x.Rg+(x.own.length+(x.Rh.length+(mH x.heap+(x.dc.length+(0)))))
end Go.Kx
