/- A part of a proof that laws of the given program hold for every input: no condition. -/
import Derived.Test.YtjmgbdepmbbepaaQFnExactSettledWN
namespace Go.Proofs.YtjmgbdepmbbepaaW.PrintWords
open Go.RowKit
namespace Kd
section
variable {α : Type} {d : Kd α} {e base n cap g : Nat} {ok ok' okp : Nat → Prop} {w w1 W : World} {v v1 : Value} {xs ys : List α}
end
section
variable {P : Program} {ops : Array Oper} {rest : List Oper} {o : Oper} {a : Act} {Q : Exit → Act → World → Prop} {Kc : Act → World → Prop} {α : Type}
end
end Kd
end Go.Proofs.YtjmgbdepmbbepaaW.PrintWords

