/- Negated atoms. -/
import Derived.Test.YtlhkmndfkjlodaaB1
set_option linter.unusedSimpArgs false
set_option linter.unusedVariables false
namespace Go.T
open Go Go.Proofs
set_option maxHeartbeats 4000000
set_option maxRecDepth 100000
theorem qoI {x:Int} (h:inI x):IntKind.i64.wrap (0 - x)= -x:=by
 unfold inI at h
 rw [qbp (by omega) (by omega)];omega
end Go.T
