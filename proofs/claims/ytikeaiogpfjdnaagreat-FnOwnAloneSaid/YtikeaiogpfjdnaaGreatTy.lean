/- How arguments of each type open as plain data. Printed by genrow.py. -/
import Derived.Test.YtikeaiogpfjdnaaGreatProg
import Derived.Test.YtikeaiogpfjdnaaGreatRow
namespace Go.Kx
open Go Go.RowKit Go.Proofs
set_option maxHeartbeats 8000000
set_option linter.unusedVariables false
set_option linter.unusedSimpArgs false
set_option maxRecDepth 100000
theorem IL:Op Tryz.prog 5 U8:=Op.u8 Tryz.underlying5
theorem ID:Program.cellsOf Tryz.prog 5=1:=by kernel_rfl
theorem Hv:BZ Tryz.prog 22 U8:=BZ.of Tryz.underlying22 ID IL
end Go.Kx
