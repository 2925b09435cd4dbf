/- Words of our own: a part of a function's code, by its way. -/
import Derived.Test.YtlpjooijkeadbaaProg
namespace Go.Proofs.YtlpjooijkeadbaaK
open Go
/-! ### A part of a function's code, by its way -/
def cAt' : List Nat → Code → Code
  | [], c => c
  | 0 :: p, .seq a _ => cAt' p a
  | 1 :: p, .seq _ b => cAt' p b
  | 0 :: p, .cond _ a _ => cAt' p a
  | 1 :: p, .cond _ _ b => cAt' p b
  | 0 :: p, .block _ b => cAt' p b
  | 0 :: p, .loop b => cAt' p b
  | 0 :: p, .scope b => cAt' p b
  | 0 :: p, .rangeFunc _ _ _ b => cAt' p b
  | _, _ => .skip
def cAt (p : List Nat) (f : Func) : Code := cAt' p (f.body.getD .skip)
end Go.Proofs.YtlpjooijkeadbaaK
