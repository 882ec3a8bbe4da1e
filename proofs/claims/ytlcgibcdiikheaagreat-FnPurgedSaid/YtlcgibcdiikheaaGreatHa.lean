import Derived.Test.YtlcgibcdiikheaaGreatLaw
import Derived.Test.YtlcgibcdiikheaaGreatPu
namespace Go.Kx
open Go
set_option linter.unusedVariables false
set_option linter.unusedSimpArgs false
set_option maxRecDepth 10000
def jJ (x:iO):Nat:=x.Hz.length+(0)
def iR (x:iu):Nat:=jJ x.HB+(x.own.length+(0))
def gX (x:cd):Nat:=x.g5.length+(x.HI.length+(x.HE.length+(0)))
def oX (x:jK):Nat:=x.gQ.length+(0)
def ks (x:g7):Nat:=iL gX x.ag+(oX x.gc+(0))
def ib (x:bh):Nat:=jJ x.HB+(x.own.length+(x.HC.length+(ks x.py+(x.gR.length+(0)))))
end Go.Kx
