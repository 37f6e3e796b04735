/- Dropping variables. -/
import Derived.Test.YtlhkmndfkjlodaaB5
import Derived.Test.YtlhkmndfkjlodaaB8
set_option linter.unusedSimpArgs false
set_option linter.unusedVariables false
namespace Go.T
open Go Go.Proofs
set_option maxHeartbeats 4000000
set_option maxRecDepth 100000
def cfV (v:Int) (a:Val Y83):Int:=List.getD (α:=Int) a.1 v.toNat 0
def okD (d:Int) (a:Val Y83):Prop:=okA a∧(List.length (α:=Int) a.1:Int)=d
end Go.T
