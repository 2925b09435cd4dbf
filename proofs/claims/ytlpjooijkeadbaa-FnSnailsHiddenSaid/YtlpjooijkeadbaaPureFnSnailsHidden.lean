/- The plain statement of the law 'FnSnailsHidden' as the walk asks for it, from the plain law (PureF). -/
import Derived.Test.YtlpjooijkeadbaaPHx17
import Derived.Test.YtlpjooijkeadbaaPureF
namespace Go.Proofs.Ytlpjooijkeadbaa.Pure
open Go Go.RowKit Go.Proofs.Ytlpjooijkeadbaa.PH
theorem byte_of {x : Int} (h : (Lit.int .u8 x).wf = true) : 0 ≤ x ∧ x ≤ 255 := by
  simpa [Lit.wf, IntKind.min, IntKind.max, IntKind.bits, IntKind.signed] using h
theorem FnSnailsHidden : laws_FnSnailsHidden.Pure := by
  intro l0 l1 _ h0 w0 _ h1 w1
  exact PureA.hidden_law (fun x hx => byte_of (w0 x hx)) (by omega) (fun x hx => byte_of (w1 x hx)) (by omega)
end Go.Proofs.Ytlpjooijkeadbaa.Pure
