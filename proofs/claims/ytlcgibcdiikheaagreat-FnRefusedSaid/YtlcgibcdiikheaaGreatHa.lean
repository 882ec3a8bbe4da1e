import Derived.Test.YtlcgibcdiikheaaGreatLaw
import Derived.Test.YtlcgibcdiikheaaGreatPu
namespace Go.Kx
open Go
set_option linter.unusedVariables false
set_option linter.unusedSimpArgs false
set_option maxRecDepth 10000
def m6 (x:jE):Nat:=x.PA.length+(0)
def lL (x:ku):Nat:=m6 x.PB+(x.own.length+(0))
def iz (x:gE):Nat:=x.ig.length+(x.PG.length+(x.PE.length+(0)))
def ui (x:jv):Nat:=x.hZ.length+(0)
def nj (x:il):Nat:=jr iz x.ag+(ui x.gc+(0))
def iH (x:cd):Nat:=m6 x.PB+(x.own.length+(x.PC.length+(nj x.py+(x.ia.length+(0)))))
end Go.Kx
