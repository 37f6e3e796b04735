/- Sums of ratios. -/
import Derived.Test.YthefcjjgchekiaaGreatB10
set_option linter.unusedSimpArgs false
set_option linter.unusedVariables false
namespace Go.T
open Go Go.Proofs
set_option maxHeartbeats 4000000
set_option maxRecDepth 100000
end Go.T
