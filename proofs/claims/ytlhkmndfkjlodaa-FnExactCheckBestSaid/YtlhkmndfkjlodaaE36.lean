/- Witnesses: a point that is chosen value by value is one (plain). -/
import Derived.Test.YtlhkmndfkjlodaaB10
import Derived.Test.YtlhkmndfkjlodaaB9
import Derived.Test.YtlhkmndfkjlodaaT12
import Derived.Test.YtlhkmndfkjlodaaB21
import Derived.Test.YtlhkmndfkjlodaaE5
import Derived.Test.YtlhkmndfkjlodaaB6n
import Derived.Test.YtlhkmndfkjlodaaB10a
set_option linter.unusedSimpArgs false
set_option linter.unusedVariables false
namespace Go.T
open Go Go.Proofs
set_option maxHeartbeats 4000000
set_option maxRecDepth 100000
def q5 (a b:(Val Y35)):(Val Y35):=bif qo a&&qo b then qaI ((a.1:Int)*b.1) ((a.2:Int)*b.2)else noR
end Go.T
