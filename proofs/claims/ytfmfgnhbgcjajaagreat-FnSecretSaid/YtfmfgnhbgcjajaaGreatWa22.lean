import Derived.Test.YtfmfgnhbgcjajaaGreatWa18
import Derived.Test.YtfmfgnhbgcjajaaGreatWa20
namespace Go.Kx
open Go Go.RowKit Go.Proofs
open Tryz
set_option maxRecDepth 10000
set_option maxHeartbeats 8000000
set_option linter.unusedVariables false
set_option linter.unusedSimpArgs false
theorem yI{w0 N m r}(h:pP N m=some r){b f d}(g:f=m.length)(n:rb w0 b d m):
    di prog 7 #[vS b f d] w0 (fun v w=>∃i k j l,v=.tuple #[vS i r.1.length k,vS j r.2.length l]/\St w0 [] w [sl i k r.1,sl j l r.2]):=by
 subst g;unfold pP at h;refine di.fS func7 fun e _=>?_;exact wk
instance k_7:Ct prog 7:={h:=@yI}
end Go.Kx
