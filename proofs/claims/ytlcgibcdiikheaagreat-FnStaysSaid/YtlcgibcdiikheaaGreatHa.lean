import Derived.Test.YtlcgibcdiikheaaGreatLaw
import Derived.Test.YtlcgibcdiikheaaGreatPu
namespace Go.Kx
open Go
set_option linter.unusedVariables false
set_option linter.unusedSimpArgs false
set_option maxRecDepth 10000
def lQ (x:kj):Nat:=x.so.length+(0)
def jI (x:iO):Nat:=lQ x.QQ+(x.own.length+(0))
def ib (x:gE):Nat:=x.gZ.length+(x.QV.length+(x.QU.length+(0)))
def rR (x:ka):Nat:=x.gQ.length+(0)
def my (x:gV):Nat:=iY ib x.ag+(rR x.gc+(0))
def ij (x:cd):Nat:=lQ x.QQ+(x.own.length+(x.QR.length+(my x.heap+(x.gR.length+(0)))))
end Go.Kx
