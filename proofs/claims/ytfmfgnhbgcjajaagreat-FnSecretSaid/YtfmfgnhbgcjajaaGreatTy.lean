import Derived.Test.YtfmfgnhbgcjajaaGreatProg
import Derived.Test.YtfmfgnhbgcjajaaGreatRow
namespace Go.Kx
open Go Go.RowKit Go.Proofs
set_option maxHeartbeats 8000000
set_option linter.unusedVariables false
set_option linter.unusedSimpArgs false
set_option maxRecDepth 100000
theorem Q2:Op Tryz.prog 5 U8:=Op.u8 Tryz.underlying5
theorem Q6:Program.cellsOf Tryz.prog 5=1:=by kernel_rfl
theorem Qe:Hb Tryz.prog 22 U8:=Hb.of Tryz.underlying22 Q6 Q2
end Go.Kx
