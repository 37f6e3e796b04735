/- Mixed atoms. -/
import Derived.Test.YtlhkmndfkjlodaaB6n
set_option linter.unusedSimpArgs false
set_option linter.unusedVariables false
namespace Go.T
open Go Go.Proofs
set_option maxHeartbeats 4000000
set_option maxRecDepth 100000
def ql4 (p q:Int) (xs ys:List Int):List Int:=(List.zip xs ys).map fun z=>p*z.1+q*z.2
theorem qCk {x a b:Int} (h:a≤x∧x≤b):inR x a b=true:=decide_eq_true h
theorem qmQ {x a b:Int} (h: ¬(a≤x∧x≤b)):inR x a b=false:=decide_eq_false h
theorem qoB {a:Val Y83} (h:qK a=true): ∀x∈(a.1:List Int), @LE.le Int _ (-400000000) x∧ @LE.le Int _ x 400000000:=(qwc h).2.2
end Go.T
