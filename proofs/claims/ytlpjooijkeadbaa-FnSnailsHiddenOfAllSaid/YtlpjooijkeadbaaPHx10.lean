-- Written by a program of our own (wip/tools/xprint.py) for this claim; Lean checks it.
import Derived.Test.YtlpjooijkeadbaaPHx0
import Derived.Test.YtlpjooijkeadbaaPHx2
import Derived.Test.YtlpjooijkeadbaaPHx3
import Derived.Test.YtlpjooijkeadbaaPHx4
import Derived.Test.YtlpjooijkeadbaaPHx5
import Derived.Test.YtlpjooijkeadbaaPHx7
import Derived.Test.YtlpjooijkeadbaaPHx8
import Derived.Test.YtlpjooijkeadbaaPHx9
namespace Go.Proofs.Ytlpjooijkeadbaa.PH
open Go.RowKit Go.Proofs.YtlpjooijkeadbaaK Go.Proofs.YtlpjooijkeadbaaW.PrintWords Go.Proofs.YtlpjooijkeadbaaW.PrintLast Go.Proofs.YtlpjooijkeadbaaW.PrintMore
attribute [local go_sem] max2_int min2_int max_two min_two max_three min_three max_four min_four   -- for this text's walks alone
set_option linter.unusedVariables false
set_option linter.unusedSimpArgs false

attribute [local go_sem high] eqA28
/-! ### laws_FnSnailsHiddenOfAll: function 3 -/
mutual
def laws_FnSnailsHiddenOfAll.j0 : Nat → Int → Int → Bool → Bool → Int → Int → List (S28) → List (S28) → Int → Int → Int → List (S28) → Int → Int → Int → Int → Int → Int → Int → Int → List (S28) → Option (Bool)
  | 0, _, _, _, _, _, _, _, _, _, _, _, _, _, _, _, _, _, _, _, _, _ => none
  | k + 1, x1, x7, x24, x93, x365000, x365001, x366000, x367000, x368000, x368001, x368002, x369000, x370000, x370001, x370002, x371000, x371001, x372000, x372001, x372002, x377000 => if x93 = true then (some false) else (if x24 = true then ((impl_DaysToTop.f x365000 x365001 50).bind fun bt383 => ((impl_DoesFit.f 0 50 bt383.1 x365000 x365001).bind fun bt385 => ((impl_EveningHeight.f x365000 x365001 100 7).bind fun bt387 => ((impl_DoesFit.f 1 7 bt387.1 x365000 x365001).bind fun bt389 => ((impl_DoesFit.f 4 0 (wrap64 (x365000 - x365001)) x365000 x365001).bind fun bt391 => ((impl_IsPuzzle.f k x377000).bind fun t393 => (if t393 = true then (if (x377000.length : Int) = x1 then (if bt383.2 = true then (if bt385.2 = true then (if bt385.1 = true then (if bt387.2 = true then (if bt389.2 = true then (if bt389.1 = true then (if bt391.2 = true then (laws_FnSnailsHiddenOfAll.j1 k x7 (!bt391.1) x365000 x365001 x366000 x367000 x368000 x368001 x368002 x369000 x370000 x370001 x370002 x371000 x371001 x372000 x372001 x372002 x377000) else (laws_FnSnailsHiddenOfAll.j1 k x7 true x365000 x365001 x366000 x367000 x368000 x368001 x368002 x369000 x370000 x370001 x370002 x371000 x371001 x372000 x372001 x372002 x377000)) else (laws_FnSnailsHiddenOfAll.j1 k x7 true x365000 x365001 x366000 x367000 x368000 x368001 x368002 x369000 x370000 x370001 x370002 x371000 x371001 x372000 x372001 x372002 x377000)) else (laws_FnSnailsHiddenOfAll.j1 k x7 true x365000 x365001 x366000 x367000 x368000 x368001 x368002 x369000 x370000 x370001 x370002 x371000 x371001 x372000 x372001 x372002 x377000)) else (laws_FnSnailsHiddenOfAll.j1 k x7 true x365000 x365001 x366000 x367000 x368000 x368001 x368002 x369000 x370000 x370001 x370002 x371000 x371001 x372000 x372001 x372002 x377000)) else (laws_FnSnailsHiddenOfAll.j1 k x7 true x365000 x365001 x366000 x367000 x368000 x368001 x368002 x369000 x370000 x370001 x370002 x371000 x371001 x372000 x372001 x372002 x377000)) else (laws_FnSnailsHiddenOfAll.j1 k x7 true x365000 x365001 x366000 x367000 x368000 x368001 x368002 x369000 x370000 x370001 x370002 x371000 x371001 x372000 x372001 x372002 x377000)) else (if bt383.1 = 0 then (if bt385.2 = true then (if bt385.1 = true then (if bt387.2 = true then (if bt389.2 = true then (if bt389.1 = true then (if bt391.2 = true then (laws_FnSnailsHiddenOfAll.j1 k x7 (!bt391.1) x365000 x365001 x366000 x367000 x368000 x368001 x368002 x369000 x370000 x370001 x370002 x371000 x371001 x372000 x372001 x372002 x377000) else (laws_FnSnailsHiddenOfAll.j1 k x7 true x365000 x365001 x366000 x367000 x368000 x368001 x368002 x369000 x370000 x370001 x370002 x371000 x371001 x372000 x372001 x372002 x377000)) else (laws_FnSnailsHiddenOfAll.j1 k x7 true x365000 x365001 x366000 x367000 x368000 x368001 x368002 x369000 x370000 x370001 x370002 x371000 x371001 x372000 x372001 x372002 x377000)) else (laws_FnSnailsHiddenOfAll.j1 k x7 true x365000 x365001 x366000 x367000 x368000 x368001 x368002 x369000 x370000 x370001 x370002 x371000 x371001 x372000 x372001 x372002 x377000)) else (laws_FnSnailsHiddenOfAll.j1 k x7 true x365000 x365001 x366000 x367000 x368000 x368001 x368002 x369000 x370000 x370001 x370002 x371000 x371001 x372000 x372001 x372002 x377000)) else (laws_FnSnailsHiddenOfAll.j1 k x7 true x365000 x365001 x366000 x367000 x368000 x368001 x368002 x369000 x370000 x370001 x370002 x371000 x371001 x372000 x372001 x372002 x377000)) else (laws_FnSnailsHiddenOfAll.j1 k x7 true x365000 x365001 x366000 x367000 x368000 x368001 x368002 x369000 x370000 x370001 x370002 x371000 x371001 x372000 x372001 x372002 x377000)) else (laws_FnSnailsHiddenOfAll.j1 k x7 true x365000 x365001 x366000 x367000 x368000 x368001 x368002 x369000 x370000 x370001 x370002 x371000 x371001 x372000 x372001 x372002 x377000))) else (laws_FnSnailsHiddenOfAll.j1 k x7 true x365000 x365001 x366000 x367000 x368000 x368001 x368002 x369000 x370000 x370001 x370002 x371000 x371001 x372000 x372001 x372002 x377000)) else (laws_FnSnailsHiddenOfAll.j1 k x7 true x365000 x365001 x366000 x367000 x368000 x368001 x368002 x369000 x370000 x370001 x370002 x371000 x371001 x372000 x372001 x372002 x377000)))))))) else (laws_FnSnailsHiddenOfAll.j3 k x7 x366000 x367000 x368000 x368001 x368002 x369000 x370000 x370001 x370002 x371000 x371001 x372000 x372001 x372002))
def laws_FnSnailsHiddenOfAll.j3 : Nat → Int → List (S28) → List (S28) → Int → Int → Int → List (S28) → Int → Int → Int → Int → Int → Int → Int → Int → Option (Bool)
  | 0, _, _, _, _, _, _, _, _, _, _, _, _, _, _, _ => none
  | k + 1, x7, x366000, x367000, x368000, x368001, x368002, x369000, x370000, x370001, x370002, x371000, x371001, x372000, x372001, x372002 => (impl_HarderPuzzle.f k x366000).bind fun bt398 => ((spec_HarderPuzzle.f k x366000).bind fun bt403 => ((impl_IsSolved.f k x366000).bind fun bt408 => (if (bt398.2 != bt403.2) = true then (laws_FnSnailsHiddenOfAll.j4 k x7 bt398.2 true x366000 x367000 x368000 x368001 x368002 x369000 x370000 x370001 x370002 x371000 x371001 x372000 x372001 x372002 bt398.1) else ((laws_qClues.f k bt398.1 bt403.1).bind fun t410 => (if t410 = true then (if bt408.2 = true then (laws_FnSnailsHiddenOfAll.j4 k x7 bt398.2 (bt398.2 != bt408.1) x366000 x367000 x368000 x368001 x368002 x369000 x370000 x370001 x370002 x371000 x371001 x372000 x372001 x372002 bt398.1) else (laws_FnSnailsHiddenOfAll.j4 k x7 bt398.2 (bt398.2 != false) x366000 x367000 x368000 x368001 x368002 x369000 x370000 x370001 x370002 x371000 x371001 x372000 x372001 x372002 bt398.1)) else (laws_FnSnailsHiddenOfAll.j4 k x7 bt398.2 true x366000 x367000 x368000 x368001 x368002 x369000 x370000 x370001 x370002 x371000 x371001 x372000 x372001 x372002 bt398.1))))))
def laws_FnSnailsHiddenOfAll.j4 : Nat → Int → Bool → Bool → List (S28) → List (S28) → Int → Int → Int → List (S28) → Int → Int → Int → Int → Int → Int → Int → Int → List (S28) → Option (Bool)
  | 0, _, _, _, _, _, _, _, _, _, _, _, _, _, _, _, _, _, _ => none
  | k + 1, x7, x42, x229, x366000, x367000, x368000, x368001, x368002, x369000, x370000, x370001, x370002, x371000, x371001, x372000, x372001, x372002, x403000 => if x229 = true then (some false) else (if x42 = true then ((impl_Solutions.f k x366000).bind fun bt411 => ((impl_Solutions.f k x403000).bind fun bt415 => ((impl_NeedlessClues.f k x403000).bind fun bt419 => (if bt411.2 = true then (if bt415.2 = true then ((laws_qSnails.f k bt411.1 bt415.1).bind fun t423 => (if t423 = true then (if bt419.2 = true then (if (bt419.1.length : Int) = 0 then (if (x403000.length : Int) > (x366000.length : Int) then (some false) else (laws_FnSnailsHiddenOfAll.j5 k x7 x367000 x368000 x368001 x368002 x369000 x370000 x370001 x370002 x371000 x371001 x372000 x372001 x372002)) else (some false)) else (some false)) else (some false))) else (some false)) else (some false))))) else (laws_FnSnailsHiddenOfAll.j5 k x7 x367000 x368000 x368001 x368002 x369000 x370000 x370001 x370002 x371000 x371001 x372000 x372001 x372002))
def laws_FnSnailsHiddenOfAll.j5 : Nat → Int → List (S28) → Int → Int → Int → List (S28) → Int → Int → Int → Int → Int → Int → Int → Int → Option (Bool)
  | 0, _, _, _, _, _, _, _, _, _, _, _, _, _, _ => none
  | k + 1, x7, x367000, x368000, x368001, x368002, x369000, x370000, x370001, x370002, x371000, x371001, x372000, x372001, x372002 => (impl_AddClue.f k x367000 x368000 x368001 x368002).bind fun bt424 => ((spec_AddClue.f k x367000 x368000 x368001 x368002).bind fun bt429 => ((impl_DropClue.f k x369000 x7).bind fun bt434 => ((spec_DropClue.f k x369000 x7).bind fun bt439 => ((impl_DoesFit.f x370000 x370001 x370002 x371000 x371001).bind fun bt444 => ((spec_DoesFit.f x370000 x370001 x370002 x371000 x371001).bind fun bt446 => (if (bt424.2 != bt429.2) = true then (laws_FnSnailsHiddenOfAll.j6 k x7 bt424.2 bt434.2 true x367000 x368000 x368001 x368002 x369000 bt424.1 bt434.1) else ((laws_qClues.f k bt424.1 bt429.1).bind fun t448 => (if t448 = true then (if (bt434.2 != bt439.2) = true then (laws_FnSnailsHiddenOfAll.j6 k x7 bt424.2 bt434.2 true x367000 x368000 x368001 x368002 x369000 bt424.1 bt434.1) else ((laws_qClues.f k bt434.1 bt439.1).bind fun t449 => (if t449 = true then (if (bt444.2 != bt446.2) = true then (laws_FnSnailsHiddenOfAll.j6 k x7 bt424.2 bt434.2 true x367000 x368000 x368001 x368002 x369000 bt424.1 bt434.1) else (if (bt444.1 != bt446.1) = true then (laws_FnSnailsHiddenOfAll.j6 k x7 bt424.2 bt434.2 true x367000 x368000 x368001 x368002 x369000 bt424.1 bt434.1) else ((impl_IsClue.f x372000 x372001 x372002).bind fun t450 => ((spec_IsClue.f x372000 x372001 x372002).bind fun t451 => (if (t450 != t451) = true then (laws_FnSnailsHiddenOfAll.j6 k x7 bt424.2 bt434.2 true x367000 x368000 x368001 x368002 x369000 bt424.1 bt434.1) else (if bt444.2 = true then ((impl_IsClue.f x370000 x370001 x370002).bind fun t452 => (laws_FnSnailsHiddenOfAll.j6 k x7 bt424.2 bt434.2 (!t452) x367000 x368000 x368001 x368002 x369000 bt424.1 bt434.1)) else (laws_FnSnailsHiddenOfAll.j6 k x7 bt424.2 bt434.2 false x367000 x368000 x368001 x368002 x369000 bt424.1 bt434.1))))))) else (laws_FnSnailsHiddenOfAll.j6 k x7 bt424.2 bt434.2 true x367000 x368000 x368001 x368002 x369000 bt424.1 bt434.1)))) else (laws_FnSnailsHiddenOfAll.j6 k x7 bt424.2 bt434.2 true x367000 x368000 x368001 x368002 x369000 bt424.1 bt434.1)))))))))
def laws_FnSnailsHiddenOfAll.j6 : Nat → Int → Bool → Bool → Bool → List (S28) → Int → Int → Int → List (S28) → List (S28) → List (S28) → Option (Bool)
  | 0, _, _, _, _, _, _, _, _, _, _, _ => none
  | k + 1, x7, x54, x58, x360, x367000, x368000, x368001, x368002, x369000, x429000, x439000 => if x360 = true then (some false) else (if x54 = true then ((impl_DropClue.f k x429000 (x367000.length : Int)).bind fun bt453 => (if bt453.2 = true then ((laws_qClues.f k bt453.1 x367000).bind fun t458 => (if t458 = true then (if 0 ≤ (x367000.length : Int) then (if (x367000.length : Int) < (x429000.length : Int) then (if (!(((rd_T28 x429000 (x367000.length : Int)).f0) == x368000) || (!(((rd_T28 x429000 (x367000.length : Int)).f1) == x368001) || (!(((rd_T28 x429000 (x367000.length : Int)).f2) == x368002)))) = true then (some false) else (laws_FnSnailsHiddenOfAll.j7 k x7 x58 x369000 x439000)) else (none)) else (none)) else (some false))) else (some false))) else (laws_FnSnailsHiddenOfAll.j7 k x7 x58 x369000 x439000))
def laws_FnSnailsHiddenOfAll.j7 : Nat → Int → Bool → List (S28) → List (S28) → Option (Bool)
  | 0, _, _, _, _ => none
  | k + 1, x7, x58, x369000, x439000 => if x58 = true then (laws_FnSnailsHiddenOfAll.j8 k x7 (x7 == (wrap64 ((x369000.length : Int) - 1))) x369000 x439000) else (laws_FnSnailsHiddenOfAll.j8 k x7 false x369000 x439000)
def laws_FnSnailsHiddenOfAll.j8 : Nat → Int → Bool → List (S28) → List (S28) → Option (Bool)
  | 0, _, _, _, _ => none
  | k + 1, x7, x399, x369000, x439000 => if x399 = true then (if 0 ≤ x7 then (if x7 < (x369000.length : Int) then ((impl_AddClue.f k x439000 ((rd_T28 x369000 x7).f0) ((rd_T28 x369000 x7).f1) ((rd_T28 x369000 x7).f2)).bind fun bt461 => (if bt461.2 = true then ((laws_qClues.f k bt461.1 x369000).bind fun t466 => (some t466)) else (some false))) else (none)) else (none)) else (some true)
def laws_FnSnailsHiddenOfAll.j1 : Nat → Int → Bool → Int → Int → List (S28) → List (S28) → Int → Int → Int → List (S28) → Int → Int → Int → Int → Int → Int → Int → Int → List (S28) → Option (Bool)
  | 0, _, _, _, _, _, _, _, _, _, _, _, _, _, _, _, _, _, _, _ => none
  | k + 1, x7, x175, x365000, x365001, x366000, x367000, x368000, x368001, x368002, x369000, x370000, x370001, x370002, x371000, x371001, x372000, x372001, x372002, x377000 => if x175 = true then (some false) else (laws_FnSnailsHiddenOfAll.l0 k x7 x377000 (x377000.length : Int) 0 x365000 x365001 x366000 x367000 x368000 x368001 x368002 x369000 x370000 x370001 x370002 x371000 x371001 x372000 x372001 x372002)
def laws_FnSnailsHiddenOfAll.l0 : Nat → Int → List (S28) → Int → Int → Int → Int → List (S28) → List (S28) → Int → Int → Int → List (S28) → Int → Int → Int → Int → Int → Int → Int → Int → Option (Bool)
  | 0, _, _, _, _, _, _, _, _, _, _, _, _, _, _, _, _, _, _, _, _ => none
  | k + 1, x7, x177, x178, x179, x365000, x365001, x366000, x367000, x368000, x368001, x368002, x369000, x370000, x370001, x370002, x371000, x371001, x372000, x372001, x372002 => if x179 < x178 then (if 0 ≤ x179 then (if x179 < (x177.length : Int) then ((impl_DoesFit.f ((rd_T28 x177 x179).f0) ((rd_T28 x177 x179).f1) ((rd_T28 x177 x179).f2) x365000 x365001).bind fun bt396 => (if bt396.2 = true then (if bt396.1 = true then (laws_FnSnailsHiddenOfAll.l0 k x7 x177 x178 (wrap64 (x179 + 1)) x365000 x365001 x366000 x367000 x368000 x368001 x368002 x369000 x370000 x370001 x370002 x371000 x371001 x372000 x372001 x372002) else (some false)) else (some false))) else (none)) else (none)) else (laws_FnSnailsHiddenOfAll.j3 k x7 x366000 x367000 x368000 x368001 x368002 x369000 x370000 x370001 x370002 x371000 x371001 x372000 x372001 x372002)
end
def laws_FnSnailsHiddenOfAll.f (k : Nat) (a0_0 : Int) (a0_1 : Int) (a1 : Int) (a2 : Int) (l3_0 : List (S28)) (l4_0 : List (S28)) (a5_0 : Int) (a5_1 : Int) (a5_2 : Int) (l6_0 : List (S28)) (a7 : Int) (a8_0 : Int) (a8_1 : Int) (a8_2 : Int) (a9_0 : Int) (a9_1 : Int) (a10_0 : Int) (a10_1 : Int) (a10_2 : Int) : Option (Bool) := (impl_MakePuzzle.f k a0_0 a0_1 a1 a2).bind fun bt372 => ((spec_MakePuzzle.f k a0_0 a0_1 a1 a2).bind fun bt377 => (if (bt372.2 != bt377.2) = true then (laws_FnSnailsHiddenOfAll.j0 k a1 a7 bt372.2 true a0_0 a0_1 l3_0 l4_0 a5_0 a5_1 a5_2 l6_0 a8_0 a8_1 a8_2 a9_0 a9_1 a10_0 a10_1 a10_2 bt372.1) else ((laws_qClues.f k bt372.1 bt377.1).bind fun t382 => (laws_FnSnailsHiddenOfAll.j0 k a1 a7 bt372.2 (!t382) a0_0 a0_1 l3_0 l4_0 a5_0 a5_1 a5_2 l6_0 a8_0 a8_1 a8_2 a9_0 a9_1 a10_0 a10_1 a10_2 bt372.1))))
theorem laws_FnSnailsHiddenOfAll.mono_l : ∀ k, (∀ y0 y1 y2 y3 y4 y5 y6 y7 y8 y9 y10 y11 y12 y13 y14 y15 y16 y17 y18 y19 y20, LeO (laws_FnSnailsHiddenOfAll.j0 k y0 y1 y2 y3 y4 y5 y6 y7 y8 y9 y10 y11 y12 y13 y14 y15 y16 y17 y18 y19 y20) (laws_FnSnailsHiddenOfAll.j0 (k + 1) y0 y1 y2 y3 y4 y5 y6 y7 y8 y9 y10 y11 y12 y13 y14 y15 y16 y17 y18 y19 y20)) ∧ (∀ y0 y1 y2 y3 y4 y5 y6 y7 y8 y9 y10 y11 y12 y13 y14, LeO (laws_FnSnailsHiddenOfAll.j3 k y0 y1 y2 y3 y4 y5 y6 y7 y8 y9 y10 y11 y12 y13 y14) (laws_FnSnailsHiddenOfAll.j3 (k + 1) y0 y1 y2 y3 y4 y5 y6 y7 y8 y9 y10 y11 y12 y13 y14)) ∧ (∀ y0 y1 y2 y3 y4 y5 y6 y7 y8 y9 y10 y11 y12 y13 y14 y15 y16 y17, LeO (laws_FnSnailsHiddenOfAll.j4 k y0 y1 y2 y3 y4 y5 y6 y7 y8 y9 y10 y11 y12 y13 y14 y15 y16 y17) (laws_FnSnailsHiddenOfAll.j4 (k + 1) y0 y1 y2 y3 y4 y5 y6 y7 y8 y9 y10 y11 y12 y13 y14 y15 y16 y17)) ∧ (∀ y0 y1 y2 y3 y4 y5 y6 y7 y8 y9 y10 y11 y12 y13, LeO (laws_FnSnailsHiddenOfAll.j5 k y0 y1 y2 y3 y4 y5 y6 y7 y8 y9 y10 y11 y12 y13) (laws_FnSnailsHiddenOfAll.j5 (k + 1) y0 y1 y2 y3 y4 y5 y6 y7 y8 y9 y10 y11 y12 y13)) ∧ (∀ y0 y1 y2 y3 y4 y5 y6 y7 y8 y9 y10, LeO (laws_FnSnailsHiddenOfAll.j6 k y0 y1 y2 y3 y4 y5 y6 y7 y8 y9 y10) (laws_FnSnailsHiddenOfAll.j6 (k + 1) y0 y1 y2 y3 y4 y5 y6 y7 y8 y9 y10)) ∧ (∀ y0 y1 y2 y3, LeO (laws_FnSnailsHiddenOfAll.j7 k y0 y1 y2 y3) (laws_FnSnailsHiddenOfAll.j7 (k + 1) y0 y1 y2 y3)) ∧ (∀ y0 y1 y2 y3, LeO (laws_FnSnailsHiddenOfAll.j8 k y0 y1 y2 y3) (laws_FnSnailsHiddenOfAll.j8 (k + 1) y0 y1 y2 y3)) ∧ (∀ y0 y1 y2 y3 y4 y5 y6 y7 y8 y9 y10 y11 y12 y13 y14 y15 y16 y17 y18, LeO (laws_FnSnailsHiddenOfAll.j1 k y0 y1 y2 y3 y4 y5 y6 y7 y8 y9 y10 y11 y12 y13 y14 y15 y16 y17 y18) (laws_FnSnailsHiddenOfAll.j1 (k + 1) y0 y1 y2 y3 y4 y5 y6 y7 y8 y9 y10 y11 y12 y13 y14 y15 y16 y17 y18)) ∧ (∀ y0 y1 y2 y3 y4 y5 y6 y7 y8 y9 y10 y11 y12 y13 y14 y15 y16 y17 y18 y19, LeO (laws_FnSnailsHiddenOfAll.l0 k y0 y1 y2 y3 y4 y5 y6 y7 y8 y9 y10 y11 y12 y13 y14 y15 y16 y17 y18 y19) (laws_FnSnailsHiddenOfAll.l0 (k + 1) y0 y1 y2 y3 y4 y5 y6 y7 y8 y9 y10 y11 y12 y13 y14 y15 y16 y17 y18 y19))
  | 0 => ⟨fun _ _ _ _ _ _ _ _ _ _ _ _ _ _ _ _ _ _ _ _ _ r h => by simp [laws_FnSnailsHiddenOfAll.j0] at h, fun _ _ _ _ _ _ _ _ _ _ _ _ _ _ _ r h => by simp [laws_FnSnailsHiddenOfAll.j3] at h, fun _ _ _ _ _ _ _ _ _ _ _ _ _ _ _ _ _ _ r h => by simp [laws_FnSnailsHiddenOfAll.j4] at h, fun _ _ _ _ _ _ _ _ _ _ _ _ _ _ r h => by simp [laws_FnSnailsHiddenOfAll.j5] at h, fun _ _ _ _ _ _ _ _ _ _ _ r h => by simp [laws_FnSnailsHiddenOfAll.j6] at h, fun _ _ _ _ r h => by simp [laws_FnSnailsHiddenOfAll.j7] at h, fun _ _ _ _ r h => by simp [laws_FnSnailsHiddenOfAll.j8] at h, fun _ _ _ _ _ _ _ _ _ _ _ _ _ _ _ _ _ _ _ r h => by simp [laws_FnSnailsHiddenOfAll.j1] at h, fun _ _ _ _ _ _ _ _ _ _ _ _ _ _ _ _ _ _ _ _ r h => by simp [laws_FnSnailsHiddenOfAll.l0] at h⟩
  | k + 1 => by
    obtain ⟨ih0, ih1, ih2, ih3, ih4, ih5, ih6, ih7, ih8⟩ := laws_FnSnailsHiddenOfAll.mono_l k
    refine ⟨?_, ?_, ?_, ?_, ?_, ?_, ?_, ?_, ?_⟩
    · intro y0 y1 y2 y3 y4 y5 y6 y7 y8 y9 y10 y11 y12 y13 y14 y15 y16 y17 y18 y19 y20
      unfold laws_FnSnailsHiddenOfAll.j0
      repeat' first
      | (with_reducible exact ih0 _ _ _ _ _ _ _ _ _ _ _ _ _ _ _ _ _ _ _ _ _)
      | (with_reducible exact ih1 _ _ _ _ _ _ _ _ _ _ _ _ _ _ _)
      | (with_reducible exact ih2 _ _ _ _ _ _ _ _ _ _ _ _ _ _ _ _ _ _)
      | (with_reducible exact ih3 _ _ _ _ _ _ _ _ _ _ _ _ _ _)
      | (with_reducible exact ih4 _ _ _ _ _ _ _ _ _ _ _)
      | (with_reducible exact ih5 _ _ _ _)
      | (with_reducible exact ih6 _ _ _ _)
      | (with_reducible exact ih7 _ _ _ _ _ _ _ _ _ _ _ _ _ _ _ _ _ _ _)
      | (with_reducible exact ih8 _ _ _ _ _ _ _ _ _ _ _ _ _ _ _ _ _ _ _ _)
      | (with_reducible exact impl_AddClue.mono _ _ _ _ _)
      | (with_reducible exact impl_DropClue.mono _ _ _)
      | (with_reducible exact impl_HarderPuzzle.mono _ _)
      | (with_reducible exact impl_IsPuzzle.mono _ _)
      | (with_reducible exact impl_IsSolved.mono _ _)
      | (with_reducible exact impl_MakePuzzle.mono _ _ _ _ _)
      | (with_reducible exact impl_NeedlessClues.mono _ _)
      | (with_reducible exact impl_Solutions.mono _ _)
      | (with_reducible exact laws_qClues.mono _ _ _)
      | (with_reducible exact laws_qSnails.mono _ _ _)
      | (with_reducible exact spec_AddClue.mono _ _ _ _ _)
      | (with_reducible exact spec_DropClue.mono _ _ _)
      | (with_reducible exact spec_HarderPuzzle.mono _ _)
      | (with_reducible exact spec_MakePuzzle.mono _ _ _ _ _)
      | (with_reducible exact LeO.refl _)
      | (with_reducible exact LeO.none _)
      | (with_reducible refine LeO.ite ?_ ?_)
      | (with_reducible refine LeO.bind ?_ (fun _ => ?_))
      | exact ih0 _ _ _ _ _ _ _ _ _ _ _ _ _ _ _ _ _ _ _ _ _
      | exact ih1 _ _ _ _ _ _ _ _ _ _ _ _ _ _ _
      | exact ih2 _ _ _ _ _ _ _ _ _ _ _ _ _ _ _ _ _ _
      | exact ih3 _ _ _ _ _ _ _ _ _ _ _ _ _ _
      | exact ih4 _ _ _ _ _ _ _ _ _ _ _
      | exact ih5 _ _ _ _
      | exact ih6 _ _ _ _
      | exact ih7 _ _ _ _ _ _ _ _ _ _ _ _ _ _ _ _ _ _ _
      | exact ih8 _ _ _ _ _ _ _ _ _ _ _ _ _ _ _ _ _ _ _ _
      | exact impl_AddClue.mono _ _ _ _ _
      | exact impl_DropClue.mono _ _ _
      | exact impl_HarderPuzzle.mono _ _
      | exact impl_IsPuzzle.mono _ _
      | exact impl_IsSolved.mono _ _
      | exact impl_MakePuzzle.mono _ _ _ _ _
      | exact impl_NeedlessClues.mono _ _
      | exact impl_Solutions.mono _ _
      | exact laws_qClues.mono _ _ _
      | exact laws_qSnails.mono _ _ _
      | exact spec_AddClue.mono _ _ _ _ _
      | exact spec_DropClue.mono _ _ _
      | exact spec_HarderPuzzle.mono _ _
      | exact spec_MakePuzzle.mono _ _ _ _ _
      | exact LeO.none _
      | refine LeO.ite ?_ ?_
      | refine LeO.bind ?_ (fun _ => ?_)
    · intro y0 y1 y2 y3 y4 y5 y6 y7 y8 y9 y10 y11 y12 y13 y14
      unfold laws_FnSnailsHiddenOfAll.j3
      repeat' first
      | (with_reducible exact ih0 _ _ _ _ _ _ _ _ _ _ _ _ _ _ _ _ _ _ _ _ _)
      | (with_reducible exact ih1 _ _ _ _ _ _ _ _ _ _ _ _ _ _ _)
      | (with_reducible exact ih2 _ _ _ _ _ _ _ _ _ _ _ _ _ _ _ _ _ _)
      | (with_reducible exact ih3 _ _ _ _ _ _ _ _ _ _ _ _ _ _)
      | (with_reducible exact ih4 _ _ _ _ _ _ _ _ _ _ _)
      | (with_reducible exact ih5 _ _ _ _)
      | (with_reducible exact ih6 _ _ _ _)
      | (with_reducible exact ih7 _ _ _ _ _ _ _ _ _ _ _ _ _ _ _ _ _ _ _)
      | (with_reducible exact ih8 _ _ _ _ _ _ _ _ _ _ _ _ _ _ _ _ _ _ _ _)
      | (with_reducible exact impl_AddClue.mono _ _ _ _ _)
      | (with_reducible exact impl_DropClue.mono _ _ _)
      | (with_reducible exact impl_HarderPuzzle.mono _ _)
      | (with_reducible exact impl_IsPuzzle.mono _ _)
      | (with_reducible exact impl_IsSolved.mono _ _)
      | (with_reducible exact impl_MakePuzzle.mono _ _ _ _ _)
      | (with_reducible exact impl_NeedlessClues.mono _ _)
      | (with_reducible exact impl_Solutions.mono _ _)
      | (with_reducible exact laws_qClues.mono _ _ _)
      | (with_reducible exact laws_qSnails.mono _ _ _)
      | (with_reducible exact spec_AddClue.mono _ _ _ _ _)
      | (with_reducible exact spec_DropClue.mono _ _ _)
      | (with_reducible exact spec_HarderPuzzle.mono _ _)
      | (with_reducible exact spec_MakePuzzle.mono _ _ _ _ _)
      | (with_reducible exact LeO.refl _)
      | (with_reducible exact LeO.none _)
      | (with_reducible refine LeO.ite ?_ ?_)
      | (with_reducible refine LeO.bind ?_ (fun _ => ?_))
      | exact ih0 _ _ _ _ _ _ _ _ _ _ _ _ _ _ _ _ _ _ _ _ _
      | exact ih1 _ _ _ _ _ _ _ _ _ _ _ _ _ _ _
      | exact ih2 _ _ _ _ _ _ _ _ _ _ _ _ _ _ _ _ _ _
      | exact ih3 _ _ _ _ _ _ _ _ _ _ _ _ _ _
      | exact ih4 _ _ _ _ _ _ _ _ _ _ _
      | exact ih5 _ _ _ _
      | exact ih6 _ _ _ _
      | exact ih7 _ _ _ _ _ _ _ _ _ _ _ _ _ _ _ _ _ _ _
      | exact ih8 _ _ _ _ _ _ _ _ _ _ _ _ _ _ _ _ _ _ _ _
      | exact impl_AddClue.mono _ _ _ _ _
      | exact impl_DropClue.mono _ _ _
      | exact impl_HarderPuzzle.mono _ _
      | exact impl_IsPuzzle.mono _ _
      | exact impl_IsSolved.mono _ _
      | exact impl_MakePuzzle.mono _ _ _ _ _
      | exact impl_NeedlessClues.mono _ _
      | exact impl_Solutions.mono _ _
      | exact laws_qClues.mono _ _ _
      | exact laws_qSnails.mono _ _ _
      | exact spec_AddClue.mono _ _ _ _ _
      | exact spec_DropClue.mono _ _ _
      | exact spec_HarderPuzzle.mono _ _
      | exact spec_MakePuzzle.mono _ _ _ _ _
      | exact LeO.none _
      | refine LeO.ite ?_ ?_
      | refine LeO.bind ?_ (fun _ => ?_)
    · intro y0 y1 y2 y3 y4 y5 y6 y7 y8 y9 y10 y11 y12 y13 y14 y15 y16 y17
      unfold laws_FnSnailsHiddenOfAll.j4
      repeat' first
      | (with_reducible exact ih0 _ _ _ _ _ _ _ _ _ _ _ _ _ _ _ _ _ _ _ _ _)
      | (with_reducible exact ih1 _ _ _ _ _ _ _ _ _ _ _ _ _ _ _)
      | (with_reducible exact ih2 _ _ _ _ _ _ _ _ _ _ _ _ _ _ _ _ _ _)
      | (with_reducible exact ih3 _ _ _ _ _ _ _ _ _ _ _ _ _ _)
      | (with_reducible exact ih4 _ _ _ _ _ _ _ _ _ _ _)
      | (with_reducible exact ih5 _ _ _ _)
      | (with_reducible exact ih6 _ _ _ _)
      | (with_reducible exact ih7 _ _ _ _ _ _ _ _ _ _ _ _ _ _ _ _ _ _ _)
      | (with_reducible exact ih8 _ _ _ _ _ _ _ _ _ _ _ _ _ _ _ _ _ _ _ _)
      | (with_reducible exact impl_AddClue.mono _ _ _ _ _)
      | (with_reducible exact impl_DropClue.mono _ _ _)
      | (with_reducible exact impl_HarderPuzzle.mono _ _)
      | (with_reducible exact impl_IsPuzzle.mono _ _)
      | (with_reducible exact impl_IsSolved.mono _ _)
      | (with_reducible exact impl_MakePuzzle.mono _ _ _ _ _)
      | (with_reducible exact impl_NeedlessClues.mono _ _)
      | (with_reducible exact impl_Solutions.mono _ _)
      | (with_reducible exact laws_qClues.mono _ _ _)
      | (with_reducible exact laws_qSnails.mono _ _ _)
      | (with_reducible exact spec_AddClue.mono _ _ _ _ _)
      | (with_reducible exact spec_DropClue.mono _ _ _)
      | (with_reducible exact spec_HarderPuzzle.mono _ _)
      | (with_reducible exact spec_MakePuzzle.mono _ _ _ _ _)
      | (with_reducible exact LeO.refl _)
      | (with_reducible exact LeO.none _)
      | (with_reducible refine LeO.ite ?_ ?_)
      | (with_reducible refine LeO.bind ?_ (fun _ => ?_))
      | exact ih0 _ _ _ _ _ _ _ _ _ _ _ _ _ _ _ _ _ _ _ _ _
      | exact ih1 _ _ _ _ _ _ _ _ _ _ _ _ _ _ _
      | exact ih2 _ _ _ _ _ _ _ _ _ _ _ _ _ _ _ _ _ _
      | exact ih3 _ _ _ _ _ _ _ _ _ _ _ _ _ _
      | exact ih4 _ _ _ _ _ _ _ _ _ _ _
      | exact ih5 _ _ _ _
      | exact ih6 _ _ _ _
      | exact ih7 _ _ _ _ _ _ _ _ _ _ _ _ _ _ _ _ _ _ _
      | exact ih8 _ _ _ _ _ _ _ _ _ _ _ _ _ _ _ _ _ _ _ _
      | exact impl_AddClue.mono _ _ _ _ _
      | exact impl_DropClue.mono _ _ _
      | exact impl_HarderPuzzle.mono _ _
      | exact impl_IsPuzzle.mono _ _
      | exact impl_IsSolved.mono _ _
      | exact impl_MakePuzzle.mono _ _ _ _ _
      | exact impl_NeedlessClues.mono _ _
      | exact impl_Solutions.mono _ _
      | exact laws_qClues.mono _ _ _
      | exact laws_qSnails.mono _ _ _
      | exact spec_AddClue.mono _ _ _ _ _
      | exact spec_DropClue.mono _ _ _
      | exact spec_HarderPuzzle.mono _ _
      | exact spec_MakePuzzle.mono _ _ _ _ _
      | exact LeO.none _
      | refine LeO.ite ?_ ?_
      | refine LeO.bind ?_ (fun _ => ?_)
    · intro y0 y1 y2 y3 y4 y5 y6 y7 y8 y9 y10 y11 y12 y13
      unfold laws_FnSnailsHiddenOfAll.j5
      repeat' first
      | (with_reducible exact ih0 _ _ _ _ _ _ _ _ _ _ _ _ _ _ _ _ _ _ _ _ _)
      | (with_reducible exact ih1 _ _ _ _ _ _ _ _ _ _ _ _ _ _ _)
      | (with_reducible exact ih2 _ _ _ _ _ _ _ _ _ _ _ _ _ _ _ _ _ _)
      | (with_reducible exact ih3 _ _ _ _ _ _ _ _ _ _ _ _ _ _)
      | (with_reducible exact ih4 _ _ _ _ _ _ _ _ _ _ _)
      | (with_reducible exact ih5 _ _ _ _)
      | (with_reducible exact ih6 _ _ _ _)
      | (with_reducible exact ih7 _ _ _ _ _ _ _ _ _ _ _ _ _ _ _ _ _ _ _)
      | (with_reducible exact ih8 _ _ _ _ _ _ _ _ _ _ _ _ _ _ _ _ _ _ _ _)
      | (with_reducible exact impl_AddClue.mono _ _ _ _ _)
      | (with_reducible exact impl_DropClue.mono _ _ _)
      | (with_reducible exact impl_HarderPuzzle.mono _ _)
      | (with_reducible exact impl_IsPuzzle.mono _ _)
      | (with_reducible exact impl_IsSolved.mono _ _)
      | (with_reducible exact impl_MakePuzzle.mono _ _ _ _ _)
      | (with_reducible exact impl_NeedlessClues.mono _ _)
      | (with_reducible exact impl_Solutions.mono _ _)
      | (with_reducible exact laws_qClues.mono _ _ _)
      | (with_reducible exact laws_qSnails.mono _ _ _)
      | (with_reducible exact spec_AddClue.mono _ _ _ _ _)
      | (with_reducible exact spec_DropClue.mono _ _ _)
      | (with_reducible exact spec_HarderPuzzle.mono _ _)
      | (with_reducible exact spec_MakePuzzle.mono _ _ _ _ _)
      | (with_reducible exact LeO.refl _)
      | (with_reducible exact LeO.none _)
      | (with_reducible refine LeO.ite ?_ ?_)
      | (with_reducible refine LeO.bind ?_ (fun _ => ?_))
      | exact ih0 _ _ _ _ _ _ _ _ _ _ _ _ _ _ _ _ _ _ _ _ _
      | exact ih1 _ _ _ _ _ _ _ _ _ _ _ _ _ _ _
      | exact ih2 _ _ _ _ _ _ _ _ _ _ _ _ _ _ _ _ _ _
      | exact ih3 _ _ _ _ _ _ _ _ _ _ _ _ _ _
      | exact ih4 _ _ _ _ _ _ _ _ _ _ _
      | exact ih5 _ _ _ _
      | exact ih6 _ _ _ _
      | exact ih7 _ _ _ _ _ _ _ _ _ _ _ _ _ _ _ _ _ _ _
      | exact ih8 _ _ _ _ _ _ _ _ _ _ _ _ _ _ _ _ _ _ _ _
      | exact impl_AddClue.mono _ _ _ _ _
      | exact impl_DropClue.mono _ _ _
      | exact impl_HarderPuzzle.mono _ _
      | exact impl_IsPuzzle.mono _ _
      | exact impl_IsSolved.mono _ _
      | exact impl_MakePuzzle.mono _ _ _ _ _
      | exact impl_NeedlessClues.mono _ _
      | exact impl_Solutions.mono _ _
      | exact laws_qClues.mono _ _ _
      | exact laws_qSnails.mono _ _ _
      | exact spec_AddClue.mono _ _ _ _ _
      | exact spec_DropClue.mono _ _ _
      | exact spec_HarderPuzzle.mono _ _
      | exact spec_MakePuzzle.mono _ _ _ _ _
      | exact LeO.none _
      | refine LeO.ite ?_ ?_
      | refine LeO.bind ?_ (fun _ => ?_)
    · intro y0 y1 y2 y3 y4 y5 y6 y7 y8 y9 y10
      unfold laws_FnSnailsHiddenOfAll.j6
      repeat' first
      | (with_reducible exact ih0 _ _ _ _ _ _ _ _ _ _ _ _ _ _ _ _ _ _ _ _ _)
      | (with_reducible exact ih1 _ _ _ _ _ _ _ _ _ _ _ _ _ _ _)
      | (with_reducible exact ih2 _ _ _ _ _ _ _ _ _ _ _ _ _ _ _ _ _ _)
      | (with_reducible exact ih3 _ _ _ _ _ _ _ _ _ _ _ _ _ _)
      | (with_reducible exact ih4 _ _ _ _ _ _ _ _ _ _ _)
      | (with_reducible exact ih5 _ _ _ _)
      | (with_reducible exact ih6 _ _ _ _)
      | (with_reducible exact ih7 _ _ _ _ _ _ _ _ _ _ _ _ _ _ _ _ _ _ _)
      | (with_reducible exact ih8 _ _ _ _ _ _ _ _ _ _ _ _ _ _ _ _ _ _ _ _)
      | (with_reducible exact impl_AddClue.mono _ _ _ _ _)
      | (with_reducible exact impl_DropClue.mono _ _ _)
      | (with_reducible exact impl_HarderPuzzle.mono _ _)
      | (with_reducible exact impl_IsPuzzle.mono _ _)
      | (with_reducible exact impl_IsSolved.mono _ _)
      | (with_reducible exact impl_MakePuzzle.mono _ _ _ _ _)
      | (with_reducible exact impl_NeedlessClues.mono _ _)
      | (with_reducible exact impl_Solutions.mono _ _)
      | (with_reducible exact laws_qClues.mono _ _ _)
      | (with_reducible exact laws_qSnails.mono _ _ _)
      | (with_reducible exact spec_AddClue.mono _ _ _ _ _)
      | (with_reducible exact spec_DropClue.mono _ _ _)
      | (with_reducible exact spec_HarderPuzzle.mono _ _)
      | (with_reducible exact spec_MakePuzzle.mono _ _ _ _ _)
      | (with_reducible exact LeO.refl _)
      | (with_reducible exact LeO.none _)
      | (with_reducible refine LeO.ite ?_ ?_)
      | (with_reducible refine LeO.bind ?_ (fun _ => ?_))
      | exact ih0 _ _ _ _ _ _ _ _ _ _ _ _ _ _ _ _ _ _ _ _ _
      | exact ih1 _ _ _ _ _ _ _ _ _ _ _ _ _ _ _
      | exact ih2 _ _ _ _ _ _ _ _ _ _ _ _ _ _ _ _ _ _
      | exact ih3 _ _ _ _ _ _ _ _ _ _ _ _ _ _
      | exact ih4 _ _ _ _ _ _ _ _ _ _ _
      | exact ih5 _ _ _ _
      | exact ih6 _ _ _ _
      | exact ih7 _ _ _ _ _ _ _ _ _ _ _ _ _ _ _ _ _ _ _
      | exact ih8 _ _ _ _ _ _ _ _ _ _ _ _ _ _ _ _ _ _ _ _
      | exact impl_AddClue.mono _ _ _ _ _
      | exact impl_DropClue.mono _ _ _
      | exact impl_HarderPuzzle.mono _ _
      | exact impl_IsPuzzle.mono _ _
      | exact impl_IsSolved.mono _ _
      | exact impl_MakePuzzle.mono _ _ _ _ _
      | exact impl_NeedlessClues.mono _ _
      | exact impl_Solutions.mono _ _
      | exact laws_qClues.mono _ _ _
      | exact laws_qSnails.mono _ _ _
      | exact spec_AddClue.mono _ _ _ _ _
      | exact spec_DropClue.mono _ _ _
      | exact spec_HarderPuzzle.mono _ _
      | exact spec_MakePuzzle.mono _ _ _ _ _
      | exact LeO.none _
      | refine LeO.ite ?_ ?_
      | refine LeO.bind ?_ (fun _ => ?_)
    · intro y0 y1 y2 y3
      unfold laws_FnSnailsHiddenOfAll.j7
      repeat' first
      | (with_reducible exact ih0 _ _ _ _ _ _ _ _ _ _ _ _ _ _ _ _ _ _ _ _ _)
      | (with_reducible exact ih1 _ _ _ _ _ _ _ _ _ _ _ _ _ _ _)
      | (with_reducible exact ih2 _ _ _ _ _ _ _ _ _ _ _ _ _ _ _ _ _ _)
      | (with_reducible exact ih3 _ _ _ _ _ _ _ _ _ _ _ _ _ _)
      | (with_reducible exact ih4 _ _ _ _ _ _ _ _ _ _ _)
      | (with_reducible exact ih5 _ _ _ _)
      | (with_reducible exact ih6 _ _ _ _)
      | (with_reducible exact ih7 _ _ _ _ _ _ _ _ _ _ _ _ _ _ _ _ _ _ _)
      | (with_reducible exact ih8 _ _ _ _ _ _ _ _ _ _ _ _ _ _ _ _ _ _ _ _)
      | (with_reducible exact impl_AddClue.mono _ _ _ _ _)
      | (with_reducible exact impl_DropClue.mono _ _ _)
      | (with_reducible exact impl_HarderPuzzle.mono _ _)
      | (with_reducible exact impl_IsPuzzle.mono _ _)
      | (with_reducible exact impl_IsSolved.mono _ _)
      | (with_reducible exact impl_MakePuzzle.mono _ _ _ _ _)
      | (with_reducible exact impl_NeedlessClues.mono _ _)
      | (with_reducible exact impl_Solutions.mono _ _)
      | (with_reducible exact laws_qClues.mono _ _ _)
      | (with_reducible exact laws_qSnails.mono _ _ _)
      | (with_reducible exact spec_AddClue.mono _ _ _ _ _)
      | (with_reducible exact spec_DropClue.mono _ _ _)
      | (with_reducible exact spec_HarderPuzzle.mono _ _)
      | (with_reducible exact spec_MakePuzzle.mono _ _ _ _ _)
      | (with_reducible exact LeO.refl _)
      | (with_reducible exact LeO.none _)
      | (with_reducible refine LeO.ite ?_ ?_)
      | (with_reducible refine LeO.bind ?_ (fun _ => ?_))
      | exact ih0 _ _ _ _ _ _ _ _ _ _ _ _ _ _ _ _ _ _ _ _ _
      | exact ih1 _ _ _ _ _ _ _ _ _ _ _ _ _ _ _
      | exact ih2 _ _ _ _ _ _ _ _ _ _ _ _ _ _ _ _ _ _
      | exact ih3 _ _ _ _ _ _ _ _ _ _ _ _ _ _
      | exact ih4 _ _ _ _ _ _ _ _ _ _ _
      | exact ih5 _ _ _ _
      | exact ih6 _ _ _ _
      | exact ih7 _ _ _ _ _ _ _ _ _ _ _ _ _ _ _ _ _ _ _
      | exact ih8 _ _ _ _ _ _ _ _ _ _ _ _ _ _ _ _ _ _ _ _
      | exact impl_AddClue.mono _ _ _ _ _
      | exact impl_DropClue.mono _ _ _
      | exact impl_HarderPuzzle.mono _ _
      | exact impl_IsPuzzle.mono _ _
      | exact impl_IsSolved.mono _ _
      | exact impl_MakePuzzle.mono _ _ _ _ _
      | exact impl_NeedlessClues.mono _ _
      | exact impl_Solutions.mono _ _
      | exact laws_qClues.mono _ _ _
      | exact laws_qSnails.mono _ _ _
      | exact spec_AddClue.mono _ _ _ _ _
      | exact spec_DropClue.mono _ _ _
      | exact spec_HarderPuzzle.mono _ _
      | exact spec_MakePuzzle.mono _ _ _ _ _
      | exact LeO.none _
      | refine LeO.ite ?_ ?_
      | refine LeO.bind ?_ (fun _ => ?_)
    · intro y0 y1 y2 y3
      unfold laws_FnSnailsHiddenOfAll.j8
      repeat' first
      | (with_reducible exact ih0 _ _ _ _ _ _ _ _ _ _ _ _ _ _ _ _ _ _ _ _ _)
      | (with_reducible exact ih1 _ _ _ _ _ _ _ _ _ _ _ _ _ _ _)
      | (with_reducible exact ih2 _ _ _ _ _ _ _ _ _ _ _ _ _ _ _ _ _ _)
      | (with_reducible exact ih3 _ _ _ _ _ _ _ _ _ _ _ _ _ _)
      | (with_reducible exact ih4 _ _ _ _ _ _ _ _ _ _ _)
      | (with_reducible exact ih5 _ _ _ _)
      | (with_reducible exact ih6 _ _ _ _)
      | (with_reducible exact ih7 _ _ _ _ _ _ _ _ _ _ _ _ _ _ _ _ _ _ _)
      | (with_reducible exact ih8 _ _ _ _ _ _ _ _ _ _ _ _ _ _ _ _ _ _ _ _)
      | (with_reducible exact impl_AddClue.mono _ _ _ _ _)
      | (with_reducible exact impl_DropClue.mono _ _ _)
      | (with_reducible exact impl_HarderPuzzle.mono _ _)
      | (with_reducible exact impl_IsPuzzle.mono _ _)
      | (with_reducible exact impl_IsSolved.mono _ _)
      | (with_reducible exact impl_MakePuzzle.mono _ _ _ _ _)
      | (with_reducible exact impl_NeedlessClues.mono _ _)
      | (with_reducible exact impl_Solutions.mono _ _)
      | (with_reducible exact laws_qClues.mono _ _ _)
      | (with_reducible exact laws_qSnails.mono _ _ _)
      | (with_reducible exact spec_AddClue.mono _ _ _ _ _)
      | (with_reducible exact spec_DropClue.mono _ _ _)
      | (with_reducible exact spec_HarderPuzzle.mono _ _)
      | (with_reducible exact spec_MakePuzzle.mono _ _ _ _ _)
      | (with_reducible exact LeO.refl _)
      | (with_reducible exact LeO.none _)
      | (with_reducible refine LeO.ite ?_ ?_)
      | (with_reducible refine LeO.bind ?_ (fun _ => ?_))
      | exact ih0 _ _ _ _ _ _ _ _ _ _ _ _ _ _ _ _ _ _ _ _ _
      | exact ih1 _ _ _ _ _ _ _ _ _ _ _ _ _ _ _
      | exact ih2 _ _ _ _ _ _ _ _ _ _ _ _ _ _ _ _ _ _
      | exact ih3 _ _ _ _ _ _ _ _ _ _ _ _ _ _
      | exact ih4 _ _ _ _ _ _ _ _ _ _ _
      | exact ih5 _ _ _ _
      | exact ih6 _ _ _ _
      | exact ih7 _ _ _ _ _ _ _ _ _ _ _ _ _ _ _ _ _ _ _
      | exact ih8 _ _ _ _ _ _ _ _ _ _ _ _ _ _ _ _ _ _ _ _
      | exact impl_AddClue.mono _ _ _ _ _
      | exact impl_DropClue.mono _ _ _
      | exact impl_HarderPuzzle.mono _ _
      | exact impl_IsPuzzle.mono _ _
      | exact impl_IsSolved.mono _ _
      | exact impl_MakePuzzle.mono _ _ _ _ _
      | exact impl_NeedlessClues.mono _ _
      | exact impl_Solutions.mono _ _
      | exact laws_qClues.mono _ _ _
      | exact laws_qSnails.mono _ _ _
      | exact spec_AddClue.mono _ _ _ _ _
      | exact spec_DropClue.mono _ _ _
      | exact spec_HarderPuzzle.mono _ _
      | exact spec_MakePuzzle.mono _ _ _ _ _
      | exact LeO.none _
      | refine LeO.ite ?_ ?_
      | refine LeO.bind ?_ (fun _ => ?_)
    · intro y0 y1 y2 y3 y4 y5 y6 y7 y8 y9 y10 y11 y12 y13 y14 y15 y16 y17 y18
      unfold laws_FnSnailsHiddenOfAll.j1
      repeat' first
      | (with_reducible exact ih0 _ _ _ _ _ _ _ _ _ _ _ _ _ _ _ _ _ _ _ _ _)
      | (with_reducible exact ih1 _ _ _ _ _ _ _ _ _ _ _ _ _ _ _)
      | (with_reducible exact ih2 _ _ _ _ _ _ _ _ _ _ _ _ _ _ _ _ _ _)
      | (with_reducible exact ih3 _ _ _ _ _ _ _ _ _ _ _ _ _ _)
      | (with_reducible exact ih4 _ _ _ _ _ _ _ _ _ _ _)
      | (with_reducible exact ih5 _ _ _ _)
      | (with_reducible exact ih6 _ _ _ _)
      | (with_reducible exact ih7 _ _ _ _ _ _ _ _ _ _ _ _ _ _ _ _ _ _ _)
      | (with_reducible exact ih8 _ _ _ _ _ _ _ _ _ _ _ _ _ _ _ _ _ _ _ _)
      | (with_reducible exact impl_AddClue.mono _ _ _ _ _)
      | (with_reducible exact impl_DropClue.mono _ _ _)
      | (with_reducible exact impl_HarderPuzzle.mono _ _)
      | (with_reducible exact impl_IsPuzzle.mono _ _)
      | (with_reducible exact impl_IsSolved.mono _ _)
      | (with_reducible exact impl_MakePuzzle.mono _ _ _ _ _)
      | (with_reducible exact impl_NeedlessClues.mono _ _)
      | (with_reducible exact impl_Solutions.mono _ _)
      | (with_reducible exact laws_qClues.mono _ _ _)
      | (with_reducible exact laws_qSnails.mono _ _ _)
      | (with_reducible exact spec_AddClue.mono _ _ _ _ _)
      | (with_reducible exact spec_DropClue.mono _ _ _)
      | (with_reducible exact spec_HarderPuzzle.mono _ _)
      | (with_reducible exact spec_MakePuzzle.mono _ _ _ _ _)
      | (with_reducible exact LeO.refl _)
      | (with_reducible exact LeO.none _)
      | (with_reducible refine LeO.ite ?_ ?_)
      | (with_reducible refine LeO.bind ?_ (fun _ => ?_))
      | exact ih0 _ _ _ _ _ _ _ _ _ _ _ _ _ _ _ _ _ _ _ _ _
      | exact ih1 _ _ _ _ _ _ _ _ _ _ _ _ _ _ _
      | exact ih2 _ _ _ _ _ _ _ _ _ _ _ _ _ _ _ _ _ _
      | exact ih3 _ _ _ _ _ _ _ _ _ _ _ _ _ _
      | exact ih4 _ _ _ _ _ _ _ _ _ _ _
      | exact ih5 _ _ _ _
      | exact ih6 _ _ _ _
      | exact ih7 _ _ _ _ _ _ _ _ _ _ _ _ _ _ _ _ _ _ _
      | exact ih8 _ _ _ _ _ _ _ _ _ _ _ _ _ _ _ _ _ _ _ _
      | exact impl_AddClue.mono _ _ _ _ _
      | exact impl_DropClue.mono _ _ _
      | exact impl_HarderPuzzle.mono _ _
      | exact impl_IsPuzzle.mono _ _
      | exact impl_IsSolved.mono _ _
      | exact impl_MakePuzzle.mono _ _ _ _ _
      | exact impl_NeedlessClues.mono _ _
      | exact impl_Solutions.mono _ _
      | exact laws_qClues.mono _ _ _
      | exact laws_qSnails.mono _ _ _
      | exact spec_AddClue.mono _ _ _ _ _
      | exact spec_DropClue.mono _ _ _
      | exact spec_HarderPuzzle.mono _ _
      | exact spec_MakePuzzle.mono _ _ _ _ _
      | exact LeO.none _
      | refine LeO.ite ?_ ?_
      | refine LeO.bind ?_ (fun _ => ?_)
    · intro y0 y1 y2 y3 y4 y5 y6 y7 y8 y9 y10 y11 y12 y13 y14 y15 y16 y17 y18 y19
      unfold laws_FnSnailsHiddenOfAll.l0
      repeat' first
      | (with_reducible exact ih0 _ _ _ _ _ _ _ _ _ _ _ _ _ _ _ _ _ _ _ _ _)
      | (with_reducible exact ih1 _ _ _ _ _ _ _ _ _ _ _ _ _ _ _)
      | (with_reducible exact ih2 _ _ _ _ _ _ _ _ _ _ _ _ _ _ _ _ _ _)
      | (with_reducible exact ih3 _ _ _ _ _ _ _ _ _ _ _ _ _ _)
      | (with_reducible exact ih4 _ _ _ _ _ _ _ _ _ _ _)
      | (with_reducible exact ih5 _ _ _ _)
      | (with_reducible exact ih6 _ _ _ _)
      | (with_reducible exact ih7 _ _ _ _ _ _ _ _ _ _ _ _ _ _ _ _ _ _ _)
      | (with_reducible exact ih8 _ _ _ _ _ _ _ _ _ _ _ _ _ _ _ _ _ _ _ _)
      | (with_reducible exact impl_AddClue.mono _ _ _ _ _)
      | (with_reducible exact impl_DropClue.mono _ _ _)
      | (with_reducible exact impl_HarderPuzzle.mono _ _)
      | (with_reducible exact impl_IsPuzzle.mono _ _)
      | (with_reducible exact impl_IsSolved.mono _ _)
      | (with_reducible exact impl_MakePuzzle.mono _ _ _ _ _)
      | (with_reducible exact impl_NeedlessClues.mono _ _)
      | (with_reducible exact impl_Solutions.mono _ _)
      | (with_reducible exact laws_qClues.mono _ _ _)
      | (with_reducible exact laws_qSnails.mono _ _ _)
      | (with_reducible exact spec_AddClue.mono _ _ _ _ _)
      | (with_reducible exact spec_DropClue.mono _ _ _)
      | (with_reducible exact spec_HarderPuzzle.mono _ _)
      | (with_reducible exact spec_MakePuzzle.mono _ _ _ _ _)
      | (with_reducible exact LeO.refl _)
      | (with_reducible exact LeO.none _)
      | (with_reducible refine LeO.ite ?_ ?_)
      | (with_reducible refine LeO.bind ?_ (fun _ => ?_))
      | exact ih0 _ _ _ _ _ _ _ _ _ _ _ _ _ _ _ _ _ _ _ _ _
      | exact ih1 _ _ _ _ _ _ _ _ _ _ _ _ _ _ _
      | exact ih2 _ _ _ _ _ _ _ _ _ _ _ _ _ _ _ _ _ _
      | exact ih3 _ _ _ _ _ _ _ _ _ _ _ _ _ _
      | exact ih4 _ _ _ _ _ _ _ _ _ _ _
      | exact ih5 _ _ _ _
      | exact ih6 _ _ _ _
      | exact ih7 _ _ _ _ _ _ _ _ _ _ _ _ _ _ _ _ _ _ _
      | exact ih8 _ _ _ _ _ _ _ _ _ _ _ _ _ _ _ _ _ _ _ _
      | exact impl_AddClue.mono _ _ _ _ _
      | exact impl_DropClue.mono _ _ _
      | exact impl_HarderPuzzle.mono _ _
      | exact impl_IsPuzzle.mono _ _
      | exact impl_IsSolved.mono _ _
      | exact impl_MakePuzzle.mono _ _ _ _ _
      | exact impl_NeedlessClues.mono _ _
      | exact impl_Solutions.mono _ _
      | exact laws_qClues.mono _ _ _
      | exact laws_qSnails.mono _ _ _
      | exact spec_AddClue.mono _ _ _ _ _
      | exact spec_DropClue.mono _ _ _
      | exact spec_HarderPuzzle.mono _ _
      | exact spec_MakePuzzle.mono _ _ _ _ _
      | exact LeO.none _
      | refine LeO.ite ?_ ?_
      | refine LeO.bind ?_ (fun _ => ?_)
theorem laws_FnSnailsHiddenOfAll.mono : ∀ a0 a1 a2 a3 a4 a5 a6 a7 a8 a9 a10 a11 a12 a13 a14 a15 a16 a17 a18 k, LeO (laws_FnSnailsHiddenOfAll.f k a0 a1 a2 a3 a4 a5 a6 a7 a8 a9 a10 a11 a12 a13 a14 a15 a16 a17 a18) (laws_FnSnailsHiddenOfAll.f (k + 1) a0 a1 a2 a3 a4 a5 a6 a7 a8 a9 a10 a11 a12 a13 a14 a15 a16 a17 a18) := by
  intro a0 a1 a2 a3 a4 a5 a6 a7 a8 a9 a10 a11 a12 a13 a14 a15 a16 a17 a18 k
  obtain ⟨ih0, ih1, ih2, ih3, ih4, ih5, ih6, ih7, ih8⟩ := laws_FnSnailsHiddenOfAll.mono_l k
  unfold laws_FnSnailsHiddenOfAll.f
  repeat' first
      | (with_reducible exact ih0 _ _ _ _ _ _ _ _ _ _ _ _ _ _ _ _ _ _ _ _ _)
      | (with_reducible exact ih1 _ _ _ _ _ _ _ _ _ _ _ _ _ _ _)
      | (with_reducible exact ih2 _ _ _ _ _ _ _ _ _ _ _ _ _ _ _ _ _ _)
      | (with_reducible exact ih3 _ _ _ _ _ _ _ _ _ _ _ _ _ _)
      | (with_reducible exact ih4 _ _ _ _ _ _ _ _ _ _ _)
      | (with_reducible exact ih5 _ _ _ _)
      | (with_reducible exact ih6 _ _ _ _)
      | (with_reducible exact ih7 _ _ _ _ _ _ _ _ _ _ _ _ _ _ _ _ _ _ _)
      | (with_reducible exact ih8 _ _ _ _ _ _ _ _ _ _ _ _ _ _ _ _ _ _ _ _)
      | (with_reducible exact impl_AddClue.mono _ _ _ _ _)
      | (with_reducible exact impl_DropClue.mono _ _ _)
      | (with_reducible exact impl_HarderPuzzle.mono _ _)
      | (with_reducible exact impl_IsPuzzle.mono _ _)
      | (with_reducible exact impl_IsSolved.mono _ _)
      | (with_reducible exact impl_MakePuzzle.mono _ _ _ _ _)
      | (with_reducible exact impl_NeedlessClues.mono _ _)
      | (with_reducible exact impl_Solutions.mono _ _)
      | (with_reducible exact laws_qClues.mono _ _ _)
      | (with_reducible exact laws_qSnails.mono _ _ _)
      | (with_reducible exact spec_AddClue.mono _ _ _ _ _)
      | (with_reducible exact spec_DropClue.mono _ _ _)
      | (with_reducible exact spec_HarderPuzzle.mono _ _)
      | (with_reducible exact spec_MakePuzzle.mono _ _ _ _ _)
      | (with_reducible exact LeO.refl _)
      | (with_reducible exact LeO.none _)
      | (with_reducible refine LeO.ite ?_ ?_)
      | (with_reducible refine LeO.bind ?_ (fun _ => ?_))
      | exact ih0 _ _ _ _ _ _ _ _ _ _ _ _ _ _ _ _ _ _ _ _ _
      | exact ih1 _ _ _ _ _ _ _ _ _ _ _ _ _ _ _
      | exact ih2 _ _ _ _ _ _ _ _ _ _ _ _ _ _ _ _ _ _
      | exact ih3 _ _ _ _ _ _ _ _ _ _ _ _ _ _
      | exact ih4 _ _ _ _ _ _ _ _ _ _ _
      | exact ih5 _ _ _ _
      | exact ih6 _ _ _ _
      | exact ih7 _ _ _ _ _ _ _ _ _ _ _ _ _ _ _ _ _ _ _
      | exact ih8 _ _ _ _ _ _ _ _ _ _ _ _ _ _ _ _ _ _ _ _
      | exact impl_AddClue.mono _ _ _ _ _
      | exact impl_DropClue.mono _ _ _
      | exact impl_HarderPuzzle.mono _ _
      | exact impl_IsPuzzle.mono _ _
      | exact impl_IsSolved.mono _ _
      | exact impl_MakePuzzle.mono _ _ _ _ _
      | exact impl_NeedlessClues.mono _ _
      | exact impl_Solutions.mono _ _
      | exact laws_qClues.mono _ _ _
      | exact laws_qSnails.mono _ _ _
      | exact spec_AddClue.mono _ _ _ _ _
      | exact spec_DropClue.mono _ _ _
      | exact spec_HarderPuzzle.mono _ _
      | exact spec_MakePuzzle.mono _ _ _ _ _
      | exact LeO.none _
      | refine LeO.ite ?_ ?_
      | refine LeO.bind ?_ (fun _ => ?_)
def laws_FnSnailsHiddenOfAll.T37 : Bool × List (List Nat × List Nat) := (true, [([], []), ([], []), ([0, 1], [0, 1]), ([2], [2]), ([3], [3]), ([4, 3], [3, 4]), ([3], [3]), ([6, 3], [3, 6]), ([5, 7, 3, 3], [3, 5, 7]), ([8, 3], [3, 8]), ([3, 9], [3, 9]), ([10, 8], [10]), ([11], [11]), ([11], [11]), ([12, 13, 11], [11, 12, 13]), ([11, 14], [11, 14]), ([15, 11], [15]), ([16], [16]), ([17, 16], [16, 17]), ([16], [16]), ([19, 16], [16, 19]), ([18, 20, 16, 16], [16, 18, 20]), ([21, 16], [16, 21]), ([16, 22], [16, 22]), ([23, 21], [23]), ([24], [24]), ([24], [24]), ([25, 26, 24], [24, 25, 26]), ([24, 27], [24, 27]), ([28, 24], [28]), ([29], [29]), ([29], [29]), ([30, 31, 29], [29, 30, 31]), ([29, 32], [29, 32]), ([33, 29], [33]), ([34], [34]), ([35, 34, 34], [34, 35]), ([34], [34]), ([37, 36, 34], [34, 37]), ([36, 38, 34], [34, 36, 38]), ([34, 39], [34, 39]), ([40, 38], [40]), ([41], [41]), ([42, 41, 41], [41, 42]), ([43], [43]), ([44, 43, 43], [43, 44]), ([45, 43], [43, 45]), ([43, 46, 41], [41, 43, 46]), ([41, 47], [41, 47])])
def laws_FnSnailsHiddenOfAll.B37 : List Nat := [0, 0, 3, 7, 15, 31, 15, 79, 255, 511, 1023, 2047, 4095, 4095, 16383, 32767, 65535, 131071, 262143, 131071, 655359, 2097151, 4194303, 8388607, 16777215, 33554431, 33554431, 134217727, 268435455, 536870911, 1073741823, 1073741823, 4294967295, 8589934591, 17179869183, 34359738367, 68719476735, 34359738367, 274877906943, 549755813887, 1099511627775, 2199023255551, 4398046511103, 8796093022207, 17592186044415, 35184372088831, 70368744177663, 140737488355327, 281474976710655]
theorem laws_FnSnailsHiddenOfAll.tab37 : rtab .any (opsOf Try.f3 37) = laws_FnSnailsHiddenOfAll.T37 := by kernel_rfl
theorem laws_FnSnailsHiddenOfAll.bits37 : waitsOk laws_FnSnailsHiddenOfAll.T37.2 laws_FnSnailsHiddenOfAll.B37 = true := by kernel_rfl
def laws_FnSnailsHiddenOfAll.T41 : Bool × List (List Nat × List Nat) := (true, [([], []), ([0], [0]), ([1], [1]), ([2], [2]), ([3, 2], [2, 3]), ([2], [2]), ([5, 2], [2, 5]), ([4, 6, 2, 2], [2, 4, 6]), ([7, 2], [2, 7]), ([2, 8], [2, 8]), ([9, 7], [9]), ([10], [10]), ([11, 10], [10, 11]), ([10], [10]), ([13, 10], [10, 13]), ([14, 10], [10, 14]), ([12, 15, 10], [10, 12, 15]), ([16, 10], [10, 16]), ([10], [10]), ([17, 18, 10], [10, 17, 18]), ([10, 19], [10, 19])])
def laws_FnSnailsHiddenOfAll.B41 : List Nat := [0, 1, 3, 7, 15, 7, 39, 127, 255, 511, 1023, 2047, 4095, 2047, 10239, 26623, 65535, 131071, 2047, 524287, 1048575]
theorem laws_FnSnailsHiddenOfAll.tab41 : rtab .any (opsOf Try.f3 41) = laws_FnSnailsHiddenOfAll.T41 := by kernel_rfl
theorem laws_FnSnailsHiddenOfAll.bits41 : waitsOk laws_FnSnailsHiddenOfAll.T41.2 laws_FnSnailsHiddenOfAll.B41 = true := by kernel_rfl
def laws_FnSnailsHiddenOfAll.T44 : Bool × List (List Nat × List Nat) := (true, [([], []), ([], []), ([1], [1]), ([], []), ([2, 3], [2, 3]), ([4], [4]), ([0, 5], [0, 5]), ([6], [6]), ([7], [7]), ([7], [7]), ([], []), ([10, 8, 6, 0, 1, 2, 3, 4, 5, 6, 7, 8, 10], [8, 10]), ([9, 11, 0, 1, 2, 3, 4, 5, 6, 7, 8, 9, 10, 11], [9])])
def laws_FnSnailsHiddenOfAll.B44 : List Nat := [0, 0, 2, 0, 14, 30, 63, 127, 255, 255, 0, 1535, 4095]
theorem laws_FnSnailsHiddenOfAll.tab44 : rtab .any (opsOf Try.f3 44) = laws_FnSnailsHiddenOfAll.T44 := by kernel_rfl
theorem laws_FnSnailsHiddenOfAll.bits44 : waitsOk laws_FnSnailsHiddenOfAll.T44.2 laws_FnSnailsHiddenOfAll.B44 = true := by kernel_rfl

end Go.Proofs.Ytlpjooijkeadbaa.PH
