import Derived.Test.YtlcgibcdiikheaaGreatProg
import Derived.Test.YtlcgibcdiikheaaGreatRow
namespace Go.Kx
open Go Go.RowKit Go.Proofs
set_option maxHeartbeats 8000000
set_option linter.unusedVariables false
set_option linter.unusedSimpArgs false
set_option maxRecDepth 100000
theorem Hr:Op Tryz.prog 5 U8:=Op.u8 Tryz.underlying5
theorem Hy:Program.cellsOf Tryz.prog 5=1:=by kernel_rfl
theorem Gt:Ah Tryz.prog 22 U8:=Ah.of Tryz.underlying22 Hy Hr
end Go.Kx
