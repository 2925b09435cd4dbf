-- Words that the kit's printer laid for this claim, without those that nothing here names; Lean checks it.
import Derived.Test.YtlpjooijkeadbaaVInv
import Derived.Test.YtlpjooijkeadbaaVFootNe
namespace Go.Proofs.YtlpjooijkeadbaaW.PrintWords
open Go.RowKit
end Go.Proofs.YtlpjooijkeadbaaW.PrintWords
namespace Go.Proofs.YtlpjooijkeadbaaW.PrintLast
section
variable {ops : Array Oper} {a : Act} {o og : Oper} {g : Nat} {t : Tmp} {u : Bool}
end
end Go.Proofs.YtlpjooijkeadbaaW.PrintLast
