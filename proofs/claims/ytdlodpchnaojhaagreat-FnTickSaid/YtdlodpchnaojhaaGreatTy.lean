/- How arguments of each type open as plain data. Printed by genrow.py. -/
import Derived.Test.YtdlodpchnaojhaaGreatProg
import Derived.Test.YtdlodpchnaojhaaGreatRow
namespace Go.Kx
open Go Go.RowKit Go.Proofs
set_option maxHeartbeats 8000000
set_option linter.unusedVariables false
set_option linter.unusedSimpArgs false
set_option maxRecDepth 100000
theorem L3:Op Tryz.prog 5 U8:=Op.u8 Tryz.underlying5
theorem LQ:Program.cellsOf Tryz.prog 5=1:=by kernel_rfl
theorem KL:DT Tryz.prog 22 U8:=DT.of Tryz.underlying22 LQ L3
end Go.Kx
