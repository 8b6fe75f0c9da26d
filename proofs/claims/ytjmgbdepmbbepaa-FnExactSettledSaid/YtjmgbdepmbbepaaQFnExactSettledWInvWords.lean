/- A part of a proof that laws of the given program hold for every input: no condition. -/
import Derived.Test.YtjmgbdepmbbepaaQFnExactSettledWInv
import Derived.Test.YtjmgbdepmbbepaaQFnExactSettledWFootNe
namespace Go.Proofs.YtjmgbdepmbbepaaW.PrintWords
open Go.RowKit
end Go.Proofs.YtjmgbdepmbbepaaW.PrintWords
namespace Go.Proofs.YtjmgbdepmbbepaaW.PrintLast
section
variable {ops : Array Oper} {a : Act} {o og : Oper} {g : Nat} {t : Tmp} {u : Bool}
end
end Go.Proofs.YtjmgbdepmbbepaaW.PrintLast

