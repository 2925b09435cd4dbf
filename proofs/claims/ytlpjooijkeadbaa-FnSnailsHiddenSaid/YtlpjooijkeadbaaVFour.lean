-- Words that the kit's printer laid for this claim, without those that nothing here names; Lean checks it.
import Derived.Test.YtlpjooijkeadbaaVTab
/-! ### 56. Four, five, six operations that may come up next, in any order -/
namespace Go.Proofs.YtlpjooijkeadbaaW.PrintLast
section
variable {P : Program} {ops : Array Oper} {Q : Exit → Act → World → Prop} {md : Region.Mode} {S : World → Prop} {ds : List Nat} {T : Bool × List (List Nat × List Nat)}
end
end Go.Proofs.YtlpjooijkeadbaaW.PrintLast
