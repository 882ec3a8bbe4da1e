import Derived.Test.YtlcgibcdiikheaaGreatProg
import Derived.Test.YtlcgibcdiikheaaGreatRow
namespace Go.Kx
open Go Go.RowKit Go.Proofs
set_option maxHeartbeats 8000000
set_option linter.unusedVariables false
set_option linter.unusedSimpArgs false
set_option maxRecDepth 100000
theorem QB:Op Tryz.prog 5 U8:=Op.u8 Tryz.underlying5
theorem QD:Program.cellsOf Tryz.prog 5=1:=by kernel_rfl
theorem PW:Hy Tryz.prog 22 U8:=Hy.of Tryz.underlying22 QD QB
end Go.Kx
