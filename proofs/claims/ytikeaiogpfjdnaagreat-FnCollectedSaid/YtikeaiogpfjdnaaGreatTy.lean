/- How arguments of each type open as plain data. Printed by genrow.py. -/
import Derived.Test.YtikeaiogpfjdnaaGreatProg
import Derived.Test.YtikeaiogpfjdnaaGreatRow
namespace Go.Kx
open Go Go.RowKit Go.Proofs
set_option maxHeartbeats 8000000
set_option linter.unusedVariables false
set_option linter.unusedSimpArgs false
set_option maxRecDepth 100000
theorem GR:Op Tryz.prog 5 U8:=Op.u8 Tryz.underlying5
theorem GP:Program.cellsOf Tryz.prog 5=1:=by kernel_rfl
theorem FZ:AZ Tryz.prog 22 U8:=AZ.of Tryz.underlying22 GP GR
end Go.Kx
