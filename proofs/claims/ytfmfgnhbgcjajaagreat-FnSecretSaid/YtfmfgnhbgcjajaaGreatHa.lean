import Derived.Test.YtfmfgnhbgcjajaaGreatLaw
import Derived.Test.YtfmfgnhbgcjajaaGreatPu
namespace Go.Kx
open Go
set_option linter.unusedVariables false
set_option linter.unusedSimpArgs false
set_option maxRecDepth 10000
def iN(x:dV):Nat:=x.Ro.length+(0)
def eM(x:dK):Nat:=iN x.Rp+(x.own.length+(0))
def dw(x:c6):Nat:=x.dk.length+(x.Rw.length+(x.Rs.length+(0)))
def vX(x:eS):Nat:=x.da.length+(0)
def mu(x:dm):Nat:=eE dw x.ag+(vX x.gc+(0))
def dC(x:bh):Nat:=iN x.Rp+(x.own.length+(x.Rr.length+(mu x.py+(x.db.length+(0)))))
end Go.Kx
