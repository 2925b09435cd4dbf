-- Written by a program of our own (wip/tools/xprint.py) for this claim; Lean checks it.
import Derived.Test.YtlpjooijkeadbaaPHx0
import Derived.Test.YtlpjooijkeadbaaPHx3
import Derived.Test.YtlpjooijkeadbaaPHx4
import Derived.Test.YtlpjooijkeadbaaPHx5
import Derived.Test.YtlpjooijkeadbaaPHx7
import Derived.Test.YtlpjooijkeadbaaPHx8
import Derived.Test.YtlpjooijkeadbaaPHx9
import Derived.Test.YtlpjooijkeadbaaPHx10
import Derived.Test.YtlpjooijkeadbaaKC
import Derived.Test.YtlpjooijkeadbaaPHx11p2
namespace Go.Proofs.Ytlpjooijkeadbaa.PH
open Go.RowKit Go.Proofs.YtlpjooijkeadbaaK Go.Proofs.YtlpjooijkeadbaaW.PrintWords Go.Proofs.YtlpjooijkeadbaaW.PrintLast Go.Proofs.YtlpjooijkeadbaaW.PrintMore
attribute [local go_sem] max2_int min2_int max_two min_two max_three min_three max_four min_four   -- for this text's walks alone
set_option linter.unusedVariables false
set_option linter.unusedSimpArgs false

attribute [local go_sem high] eqA28
set_option maxHeartbeats 8000000 in
set_option maxRecDepth 100000 in
theorem laws_FnSnailsHiddenOfAll.r1 (k : Nat) (a0_0 a0_1 a1 a2 : Int) (A3_0 : Option Addr) (c3_0 : Nat) (l3_0 : List S28) (A4_0 : Option Addr) (c4_0 : Nat) (l4_0 : List S28) (a5_0 a5_1 a5_2 : Int) (A6_0 : Option Addr) (c6_0 : Nat) (l6_0 : List S28) (a7 a8_0 a8_1 a8_2 a9_0 a9_1 a10_0 a10_1 a10_2 : Int) (r : Bool) (w : World) (HR3_0 : Aside0 (k28.C w A3_0 l3_0.length l3_0)) (HC3_0 : Aside0 (l3_0.length ≤ c3_0)) (HR4_0 : Aside0 (k28.C w A4_0 l4_0.length l4_0)) (HC4_0 : Aside0 (l4_0.length ≤ c4_0)) (HR6_0 : Aside0 (k28.C w A6_0 l6_0.length l6_0)) (HC6_0 : Aside0 (l6_0.length ≤ c6_0)) (t372 : List S28) (t375 t380 : Bool) (Qz1 : Exit → Act → World → Prop) (hQz1 : Qz1 = bodyPost Try.prog Try.f3 fun e w' => e = Ending.returned (Value.bool r) ∧ Below w.heap.size w w') (gb1 gb2 : Nat) (NB1_2 : Aside0 (gb1 ≠ gb2)) (gb3 : Nat) (NB1_3 : Aside0 (gb1 ≠ gb3)) (NB2_3 : Aside0 (gb2 ≠ gb3)) (gb4 : Nat) (NB1_4 : Aside0 (gb1 ≠ gb4)) (NB2_4 : Aside0 (gb2 ≠ gb4)) (NB3_4 : Aside0 (gb3 ≠ gb4)) (gb5 : Nat) (NB1_5 : Aside0 (gb1 ≠ gb5)) (NB2_5 : Aside0 (gb2 ≠ gb5)) (NB3_5 : Aside0 (gb3 ≠ gb5)) (NB4_5 : Aside0 (gb4 ≠ gb5)) (gb6 : Nat) (NB1_6 : Aside0 (gb1 ≠ gb6)) (NB2_6 : Aside0 (gb2 ≠ gb6)) (NB3_6 : Aside0 (gb3 ≠ gb6)) (NB4_6 : Aside0 (gb4 ≠ gb6)) (NB5_6 : Aside0 (gb5 ≠ gb6)) (gb7 : Nat) (NB1_7 : Aside0 (gb1 ≠ gb7)) (NB2_7 : Aside0 (gb2 ≠ gb7)) (NB3_7 : Aside0 (gb3 ≠ gb7)) (NB4_7 : Aside0 (gb4 ≠ gb7)) (NB5_7 : Aside0 (gb5 ≠ gb7)) (NB6_7 : Aside0 (gb6 ≠ gb7)) (gb8 : Nat) (NB1_8 : Aside0 (gb1 ≠ gb8)) (NB2_8 : Aside0 (gb2 ≠ gb8)) (NB3_8 : Aside0 (gb3 ≠ gb8)) (NB4_8 : Aside0 (gb4 ≠ gb8)) (NB5_8 : Aside0 (gb5 ≠ gb8)) (NB6_8 : Aside0 (gb6 ≠ gb8)) (NB7_8 : Aside0 (gb7 ≠ gb8)) (gb9 : Nat) (NB1_9 : Aside0 (gb1 ≠ gb9)) (NB9_1 : Aside0 (gb9 ≠ gb1)) (NB9_2 : Aside0 (gb9 ≠ gb2)) (NB9_3 : Aside0 (gb9 ≠ gb3)) (NB9_4 : Aside0 (gb9 ≠ gb4)) (NB9_5 : Aside0 (gb9 ≠ gb5)) (NB9_6 : Aside0 (gb9 ≠ gb6)) (NB9_7 : Aside0 (gb9 ≠ gb7)) (NB9_8 : Aside0 (gb9 ≠ gb8)) (Ao33 : Option Addr) (co33 gb10 : Nat) (Kz12 : Act → World → Prop) (az13 : ∀ (a : Act) (w : World), Code.wp Try.prog (cAt [1, 1, 1, 1] Try.f3) Qz1 a w → Kz12 a w) (Kz14 : Act → World → Prop) (az15 : ∀ (a : Act) (w : World), Code.wp Try.prog (cAt [1, 1, 1, 0, 1] Try.f3) (Exit.then Kz12 Qz1) a w → Kz14 a w) (wc : World) (u69 u70 u71 u72 u73 u74 u75 u76 u77 u78 u79 u80 u81 u82 u83 u84 u85 u86 u87 u88 u89 u90 u91 u92 : Value) (kq : Nat) (x93_13 : Bool) (HA : Aside0 (j0 kq a1 a7 t375 x93_13 a0_0 a0_1 l3_0 l4_0 a5_0 a5_1 a5_2 l6_0 a8_0 a8_1 a8_2 a9_0 a9_1 a10_0 a10_1 a10_2 t372 = some r)) (HJ13 : Aside0 (kq ≤ k)) (HO_377000 : Aside0 (k28.R 28 wc w.heap.size (fun k_ => k_ ≠ gb4 ∧ k_ ≠ gb6 ∧ k_ ≠ gb8) (Value.slice Ao33 t372.length co33) t372)) (BK1 : Aside0 (wc.heap[gb1]? = some (Obj.cells #[Value.int IntKind.i64 a0_0, Value.int IntKind.i64 a0_1] 23))) (BK2 : Aside0 (wc.heap[gb2]? = some (Obj.cells #[Value.slice A3_0 l3_0.length c3_0] 26))) (BK3 : Aside0 (wc.heap[gb3]? = some (Obj.cells #[Value.slice A4_0 l4_0.length c4_0] 26))) (BK4 : Aside0 (wc.heap[gb4]? = some (Obj.cells #[Value.int IntKind.i64 a5_0, Value.int IntKind.i64 a5_1, Value.int IntKind.i64 a5_2] 28))) (BK5 : Aside0 (wc.heap[gb5]? = some (Obj.cells #[Value.slice A6_0 l6_0.length c6_0] 26))) (BK6 : Aside0 (wc.heap[gb6]? = some (Obj.cells #[Value.int IntKind.i64 a8_0, Value.int IntKind.i64 a8_1, Value.int IntKind.i64 a8_2] 28))) (BK7 : Aside0 (wc.heap[gb7]? = some (Obj.cells #[Value.int IntKind.i64 a9_0, Value.int IntKind.i64 a9_1] 23))) (BK8 : Aside0 (wc.heap[gb8]? = some (Obj.cells #[Value.int IntKind.i64 a10_0, Value.int IntKind.i64 a10_1, Value.int IntKind.i64 a10_2] 28))) (BK9 : Aside0 (wc.heap[gb9]? = some (Obj.cells #[Value.slice Ao33 t372.length co33] 26))) (HB : Aside0 (Below w.heap.size w wc)) :
    Kz14 { tmps := #[Value.agg #[Value.int IntKind.i64 a0_0, Value.int IntKind.i64 a0_1], Value.int IntKind.i64 a1, Value.int IntKind.i64 a2, Value.agg #[Value.slice A3_0 l3_0.length c3_0], Value.agg #[Value.slice A4_0 l4_0.length c4_0], Value.agg #[Value.int IntKind.i64 a5_0, Value.int IntKind.i64 a5_1, Value.int IntKind.i64 a5_2], Value.agg #[Value.slice A6_0 l6_0.length c6_0], Value.int IntKind.i64 a7, Value.agg #[Value.int IntKind.i64 a8_0, Value.int IntKind.i64 a8_1, Value.int IntKind.i64 a8_2], Value.agg #[Value.int IntKind.i64 a9_0, Value.int IntKind.i64 a9_1], Value.agg #[Value.int IntKind.i64 a10_0, Value.int IntKind.i64 a10_1, Value.int IntKind.i64 a10_2], Value.pointer (some { block := gb1, off := 0 }), undef, undef, Value.pointer (some { block := gb2, off := 0 }), Value.pointer (some { block := gb3, off := 0 }), Value.pointer (some { block := gb4, off := 0 }), Value.pointer (some { block := gb5, off := 0 }), undef, Value.pointer (some { block := gb6, off := 0 }), Value.pointer (some { block := gb7, off := 0 }), Value.pointer (some { block := gb8, off := 0 }), Value.bool false, Value.pointer (some { block := gb9, off := 0 }), Value.bool t375, Value.pointer (some { block := gb10, off := 0 }), Value.bool t380, undef, undef, undef, undef, undef, undef, undef, undef, undef, undef, undef, undef, undef, undef, undef, undef, undef, undef, undef, undef, undef, undef, undef, undef, undef, undef, undef, undef, undef, undef, undef, undef, undef, undef, undef, undef, undef, undef, undef, undef, undef, undef, u69, u70, u71, u72, u73, u74, u75, u76, u77, u78, u79, u80, u81, u82, u83, u84, u85, u86, u87, u88, u89, u90, u91, u92, Value.bool x93_13, undef, undef, undef, undef, undef, undef, undef, undef, undef, undef, undef, undef, undef, undef, undef, undef, undef, undef, undef, undef, undef, undef, undef, undef, undef, undef, undef, undef, undef, undef, undef, undef, undef, undef, undef, undef, undef, undef, undef, undef, undef, undef, undef, undef, undef, undef, undef, undef, undef, undef, undef, undef, undef, undef, undef, undef, undef, undef, undef, undef, undef, undef, undef, undef, undef, undef, undef, undef, undef, undef, undef, undef, undef, undef, undef, undef, undef, undef, undef, undef, undef, undef, undef, undef, undef, undef, undef, undef, undef, undef, undef, undef, undef, undef, undef, undef, undef, undef, undef, undef, undef, undef, undef, undef, undef, undef, undef, undef, undef, undef, undef, undef, undef, undef, undef, undef, undef, undef, undef, undef, undef, undef, undef, undef, undef, undef, undef, undef, undef, undef, undef, undef, undef, undef, undef, undef, undef, undef, undef, undef, undef, undef, undef, undef, undef, undef, undef, undef, undef, undef, undef, undef, undef, undef, undef, undef, undef, undef, undef, undef, undef, undef, undef, undef, undef, undef, undef, undef, undef, undef, undef, undef, undef, undef, undef, undef, undef, undef, undef, undef, undef, undef, undef, undef, undef, undef, undef, undef, undef, undef, undef, undef, undef, undef, undef, undef, undef, undef, undef, undef, undef, undef, undef, undef, undef, undef, undef, undef, undef, undef, undef, undef, undef, undef, undef, undef, undef, undef, undef, undef, undef, undef, undef, undef, undef, undef, undef, undef, undef, undef, undef, undef, undef, undef, undef, undef, undef, undef, undef, undef, undef, undef, undef, undef, undef, undef, undef, undef, undef, undef, undef, undef, undef, undef, undef, undef, undef, undef, undef, undef, undef, undef, undef, undef, undef, undef, undef, undef, undef, undef, undef, undef, undef, undef, undef, undef, undef, undef, undef, undef, undef, undef, undef, undef, undef, undef, undef, undef, undef, undef, undef, undef, undef, undef, undef, undef, undef, undef, undef, undef, undef, undef, undef, undef, undef, undef, undef, undef, undef, undef, undef, undef, undef, undef, undef, undef, undef, undef, undef, undef, undef, undef, undef, undef], defers := [] } wc := by
 subst hQz1
 (try dsimp only)
 conv at az13 => ext a w; lhs; arg 2; whnf
 conv at az15 => ext a w; lhs; arg 2; whnf
 cases kq with
 | zero => exact absurd HA.out (by simp [laws_FnSnailsHiddenOfAll.j0])
 | succ kj13 =>
  have H := HA.out
  clear HA
  simp only [laws_FnSnailsHiddenOfAll.j0] at H
  replace H := iteB H; rcases H with ⟨rfl, H⟩ | ⟨rfl, H⟩
  ·
   obtain rfl := Option.some.inj H
   go_wp2
   go_ret
   exact ⟨eqR, bw HB⟩
  have HC79 := Aside0.mk H
  clear H
  go_upto_if 94 with (fail)
  go_cut [93, 94] from 1 to 0 (fun _ _ wc => ∃ (kq : Nat), Aside0 (laws_FnSnailsHiddenOfAll.j3 kq a7 l3_0 l4_0 a5_0 a5_1 a5_2 l6_0 a8_0 a8_1 a8_2 a9_0 a9_1 a10_0 a10_1 a10_2 = some r) ∧ Aside0 (kq ≤ kj13) ∧ Aside0 (wc.heap[gb2]? = some (.cells #[(.slice A3_0 l3_0.length c3_0)] 26 (0, 0))) ∧ Aside0 (wc.heap[gb3]? = some (.cells #[(.slice A4_0 l4_0.length c4_0)] 26 (0, 0))) ∧ Aside0 (wc.heap[gb4]? = some (.cells #[.int .i64 a5_0, .int .i64 a5_1, .int .i64 a5_2] 28 (0, 0))) ∧ Aside0 (wc.heap[gb5]? = some (.cells #[(.slice A6_0 l6_0.length c6_0)] 26 (0, 0))) ∧ Aside0 (wc.heap[gb6]? = some (.cells #[.int .i64 a8_0, .int .i64 a8_1, .int .i64 a8_2] 28 (0, 0))) ∧ Aside0 (wc.heap[gb7]? = some (.cells #[.int .i64 a9_0, .int .i64 a9_1] 23 (0, 0))) ∧ Aside0 (wc.heap[gb8]? = some (.cells #[.int .i64 a10_0, .int .i64 a10_1, .int .i64 a10_2] 28 (0, 0))) ∧ Aside0 (Below w.heap.size w wc))
  case first =>
   have H := HC79.out
   clear HC79
   replace H := iteB H; rcases H with ⟨rfl, H⟩ | ⟨rfl, H⟩
   rotate_left
   ·
    have H' := Aside0.mk H
    clear H
    go_wp2
    go_meet
    case rel => exact ⟨_, H', ⟨by have := HJ13.out; first | omega | exact Nat.le_refl _⟩, ⟨bk BK2⟩, ⟨bk BK3⟩, ⟨bk BK4⟩, ⟨bk BK5⟩, ⟨bk BK6⟩, ⟨bk BK7⟩, ⟨bk BK8⟩, ⟨bw HB⟩⟩
   replace H := bindS H; obtain ⟨⟨t383, t384⟩, A81, H⟩ := H
   replace H := bindS H; obtain ⟨⟨t385, t386⟩, A82, H⟩ := H
   replace H := bindS H; obtain ⟨⟨t387, t388⟩, A83, H⟩ := H
   replace H := bindS H; obtain ⟨⟨t389, t390⟩, A84, H⟩ := H
   replace H := bindS H; obtain ⟨⟨t391, t392⟩, A85, H⟩ := H
   have HC86 := Aside0.mk H
   clear H
   have hnb87 := up8 NB1_2 NB1_3 NB1_4 NB1_5 NB1_6 NB1_7 NB1_8 NB1_9
   obtain ⟨hcz95_0, hcz95_1, hfz95_0, hfz95_1⟩ := kc2 BK1
   go_upto_region 11 with (first | ((with_reducible refine gate_callee (f := 8) rfl ?_); refine goesL_ (some 97) rfl rfl Try.func8 (by kernel_rfl) rfl #[.agg #[.int .i64 a0_0, .int .i64 a0_1], .int .i64 50] rfl argR ?_; (with_reducible refine (impl_DaysToTop.calls a0_0 a0_1 50 t383 t384 _ A81.out).mono ?_); rintro e w96 ⟨rfl, hb⟩; refine ⟨_, rfl, ?_⟩; replace HO_377000 := ko HO_377000 hb; refine mv7 hb BK1 BK2 BK3 BK4 BK5 BK6 BK7 ?_; clear BK1 BK2 BK3 BK4 BK5 BK6 BK7; intro BK1 BK2 BK3 BK4 BK5 BK6 BK7; refine mv2 hb BK8 BK9 ?_; clear BK8 BK9; intro BK8 BK9; replace HB := kw HB hb; (try clear hb); obtain ⟨hcz97_0, hcz97_1, hfz97_0, hfz97_1⟩ := kc2 BK1) | ((with_reducible refine gate_callee (f := 9) rfl ?_); refine goesL_ (some 104) rfl rfl Try.func9 (by kernel_rfl) rfl #[.agg #[.int .i64 0, .int .i64 50, .int .i64 t383], .agg #[.int .i64 a0_0, .int .i64 a0_1]] rfl argR ?_; (with_reducible refine (impl_DoesFit.calls 0 50 t383 a0_0 a0_1 t385 t386 _ A82.out).mono ?_); rintro e w98 ⟨rfl, hb⟩; refine ⟨_, rfl, ?_⟩; replace HO_377000 := ko HO_377000 hb; refine mv7 hb BK1 BK2 BK3 BK4 BK5 BK6 BK7 ?_; clear BK1 BK2 BK3 BK4 BK5 BK6 BK7; intro BK1 BK2 BK3 BK4 BK5 BK6 BK7; refine mv2 hb BK8 BK9 ?_; clear BK8 BK9; intro BK8 BK9; replace HB := kw HB hb; (try clear hb); obtain ⟨hcz99_0, hcz99_1, hfz99_0, hfz99_1⟩ := kc2 BK1) | ((with_reducible refine gate_callee (f := 10) rfl ?_); refine goesL_ (some 109) rfl rfl Try.func10 (by kernel_rfl) rfl #[.agg #[.int .i64 a0_0, .int .i64 a0_1], .int .i64 100, .int .i64 7] rfl argR ?_; (with_reducible refine (impl_EveningHeight.calls a0_0 a0_1 100 7 t387 t388 _ A83.out).mono ?_); rintro e w100 ⟨rfl, hb⟩; refine ⟨_, rfl, ?_⟩; replace HO_377000 := ko HO_377000 hb; refine mv7 hb BK1 BK2 BK3 BK4 BK5 BK6 BK7 ?_; clear BK1 BK2 BK3 BK4 BK5 BK6 BK7; intro BK1 BK2 BK3 BK4 BK5 BK6 BK7; refine mv2 hb BK8 BK9 ?_; clear BK8 BK9; intro BK8 BK9; replace HB := kw HB hb; (try clear hb); obtain ⟨hcz101_0, hcz101_1, hfz101_0, hfz101_1⟩ := kc2 BK1) | ((with_reducible refine gate_callee (f := 9) rfl ?_); refine goesL_ (some 116) rfl rfl Try.func9 (by kernel_rfl) rfl #[.agg #[.int .i64 1, .int .i64 7, .int .i64 t387], .agg #[.int .i64 a0_0, .int .i64 a0_1]] rfl argR ?_; (with_reducible refine (impl_DoesFit.calls 1 7 t387 a0_0 a0_1 t389 t390 _ A84.out).mono ?_); rintro e w102 ⟨rfl, hb⟩; refine ⟨_, rfl, ?_⟩; replace HO_377000 := ko HO_377000 hb; refine mv7 hb BK1 BK2 BK3 BK4 BK5 BK6 BK7 ?_; clear BK1 BK2 BK3 BK4 BK5 BK6 BK7; intro BK1 BK2 BK3 BK4 BK5 BK6 BK7; refine mv2 hb BK8 BK9 ?_; clear BK8 BK9; intro BK8 BK9; replace HB := kw HB hb; (try clear hb); obtain ⟨hcz103_0, hcz103_1, hfz103_0, hfz103_1⟩ := kc2 BK1) | ((with_reducible refine gate_callee (f := 9) rfl ?_); refine goesL_ (some 127) rfl rfl Try.func9 (by kernel_rfl) rfl #[.agg #[.int .i64 4, .int .i64 0, .int .i64 (wrap64 (a0_0 - a0_1))], .agg #[.int .i64 a0_0, .int .i64 a0_1]] rfl argR ?_; (with_reducible refine (impl_DoesFit.calls 4 0 (wrap64 (a0_0 - a0_1)) a0_0 a0_1 t391 t392 _ A85.out).mono ?_); rintro e w104 ⟨rfl, hb⟩; refine ⟨_, rfl, ?_⟩; replace HO_377000 := ko HO_377000 hb; refine mv7 hb BK1 BK2 BK3 BK4 BK5 BK6 BK7 ?_; clear BK1 BK2 BK3 BK4 BK5 BK6 BK7; intro BK1 BK2 BK3 BK4 BK5 BK6 BK7; refine mv2 hb BK8 BK9 ?_; clear BK8 BK9; intro BK8 BK9; replace HB := kw HB hb; (try clear hb)))
   (try simp only [Act.put, List.setIfInBounds_toArray, List.set_cons_zero, List.set_cons_succ])
   go_cut [175, 93, 94, 95, 96, 97, 98, 99, 100, 101, 102, 103, 104, 105, 106, 107, 108, 109, 110, 111, 112, 113, 114, 115, 116, 117, 118, 119, 120, 121, 122, 123, 124, 125, 126, 127, 128, 129] from 1 to 0 (fun v175 _ _ _ _ _ _ _ _ _ _ _ _ _ _ _ _ _ _ _ _ _ _ _ _ _ _ _ _ _ _ _ _ _ _ _ _ _ wc => ∃ (kq : Nat) (x175_85 : Bool), v175 = .bool x175_85 ∧ Aside0 (laws_FnSnailsHiddenOfAll.j1 kq a7 x175_85 a0_0 a0_1 l3_0 l4_0 a5_0 a5_1 a5_2 l6_0 a8_0 a8_1 a8_2 a9_0 a9_1 a10_0 a10_1 a10_2 t372 = some r) ∧ Aside0 (kq ≤ kj13) ∧ Aside0 (Kd.R k28 28 wc w.heap.size (fun k_ => k_ ≠ gb4 ∧ k_ ≠ gb6 ∧ k_ ≠ gb8) (.slice Ao33 t372.length co33) t372) ∧ Aside0 (wc.heap[gb1]? = some (.cells #[.int .i64 a0_0, .int .i64 a0_1] 23 (0, 0))) ∧ Aside0 (wc.heap[gb2]? = some (.cells #[(.slice A3_0 l3_0.length c3_0)] 26 (0, 0))) ∧ Aside0 (wc.heap[gb3]? = some (.cells #[(.slice A4_0 l4_0.length c4_0)] 26 (0, 0))) ∧ Aside0 (wc.heap[gb4]? = some (.cells #[.int .i64 a5_0, .int .i64 a5_1, .int .i64 a5_2] 28 (0, 0))) ∧ Aside0 (wc.heap[gb5]? = some (.cells #[(.slice A6_0 l6_0.length c6_0)] 26 (0, 0))) ∧ Aside0 (wc.heap[gb6]? = some (.cells #[.int .i64 a8_0, .int .i64 a8_1, .int .i64 a8_2] 28 (0, 0))) ∧ Aside0 (wc.heap[gb7]? = some (.cells #[.int .i64 a9_0, .int .i64 a9_1] 23 (0, 0))) ∧ Aside0 (wc.heap[gb8]? = some (.cells #[.int .i64 a10_0, .int .i64 a10_1, .int .i64 a10_2] 28 (0, 0))) ∧ Aside0 (wc.heap[gb9]? = some (.cells #[(.slice Ao33 t372.length co33)] 26 (0, 0))) ∧ Aside0 (Below w.heap.size w wc))
   case first =>
    have H := HC86.out
    clear HC86
    replace H := bindS H; obtain ⟨t393, A105, H⟩ := H
    replace H := iteB H; rcases H with ⟨rfl, H⟩ | ⟨rfl, H⟩
    rotate_left
    ·
     have H' := Aside0.mk H
     clear H
     have hnb298 := up8 NB9_1 NB9_2 NB9_3 NB9_4 NB9_5 NB9_6 NB9_7 NB9_8
     obtain ⟨hcz306_0, hfz306_0⟩ := kc1 BK9
     go_wp2_with (first | ((with_reducible refine gate_callee (f := 11) rfl ?_); refine goesL_ (some 131) rfl rfl Try.func11 (by kernel_rfl) rfl #[.agg #[.slice Ao33 t372.length co33]] rfl argR ?_; (with_reducible refine (impl_IsPuzzle.calls kj13 _ _ t372 false _ ?side1 ?side2 A105.out).mono ?_); (case side1 => exact rs HO_377000); (case side2 => exact rl HO_377000); rintro e w307 ⟨rfl, hb⟩; refine ⟨_, rfl, ?_⟩; replace HO_377000 := ko HO_377000 hb; refine mv7 hb BK1 BK2 BK3 BK4 BK5 BK6 BK7 ?_; clear BK1 BK2 BK3 BK4 BK5 BK6 BK7; intro BK1 BK2 BK3 BK4 BK5 BK6 BK7; refine mv2 hb BK8 BK9 ?_; clear BK8 BK9; intro BK8 BK9; replace HB := kw HB hb; (try clear hb)))
     go_meet
     case rel => exact ⟨_, (true), (by first | rfl | (simp; done) | (simp [*]; done)), H', ⟨by have := HJ13.out; first | omega | exact Nat.le_refl _⟩, ⟨ro HO_377000⟩, ⟨bk BK1⟩, ⟨bk BK2⟩, ⟨bk BK3⟩, ⟨bk BK4⟩, ⟨bk BK5⟩, ⟨bk BK6⟩, ⟨bk BK7⟩, ⟨bk BK8⟩, ⟨bk BK9⟩, ⟨bw HB⟩⟩
    replace H := iteC H; rcases H with ⟨c107, H⟩ | ⟨c107, H⟩
    rotate_left
    ·
     have c107b0 : ((t372.length : Int) == a1) = false := beq_eq_false_iff_ne.mpr c107
     have c107b1 : ((t372.length : Int) != a1) = true := bne_iff_ne.mpr c107
     (first | rw [c107b0] | (simp only [i64_w, i32_w]; rw [c107b0]) | skip)
     have H' := Aside0.mk H
     clear H
     have hnb287 := up8 NB9_1 NB9_2 NB9_3 NB9_4 NB9_5 NB9_6 NB9_7 NB9_8
     obtain ⟨hcz295_0, hfz295_0⟩ := kc1 BK9
     go_wp2_with (first | ((with_reducible refine gate_callee (f := 11) rfl ?_); refine goesL_ (some 131) rfl rfl Try.func11 (by kernel_rfl) rfl #[.agg #[.slice Ao33 t372.length co33]] rfl argR ?_; (with_reducible refine (impl_IsPuzzle.calls kj13 _ _ t372 true _ ?side1 ?side2 A105.out).mono ?_); (case side1 => exact rs HO_377000); (case side2 => exact rl HO_377000); rintro e w296 ⟨rfl, hb⟩; refine ⟨_, rfl, ?_⟩; replace HO_377000 := ko HO_377000 hb; refine mv7 hb BK1 BK2 BK3 BK4 BK5 BK6 BK7 ?_; clear BK1 BK2 BK3 BK4 BK5 BK6 BK7; intro BK1 BK2 BK3 BK4 BK5 BK6 BK7; refine mv2 hb BK8 BK9 ?_; clear BK8 BK9; intro BK8 BK9; replace HB := kw HB hb; (try clear hb); obtain ⟨hcz297_0, hfz297_0⟩ := kc1 BK9))
     go_meet
     case rel => exact ⟨_, (true), (by first | rfl | (simp; done) | (simp [*]; done)), H', ⟨by have := HJ13.out; first | omega | exact Nat.le_refl _⟩, ⟨ro HO_377000⟩, ⟨bk BK1⟩, ⟨bk BK2⟩, ⟨bk BK3⟩, ⟨bk BK4⟩, ⟨bk BK5⟩, ⟨bk BK6⟩, ⟨bk BK7⟩, ⟨bk BK8⟩, ⟨bk BK9⟩, ⟨bw HB⟩⟩
    have c107b0 : ((t372.length : Int) == a1) = true := beq_iff_eq.mpr c107
    have c107b1 : ((t372.length : Int) != a1) = false := bne_eq_false_iff_eq.mpr c107
    clear c107
    (first | rw [c107b0] | (simp only [i64_w, i32_w]; rw [c107b0]) | skip)
    replace H := iteB H; rcases H with ⟨rfl, H⟩ | ⟨rfl, H⟩
    ·
     replace H := iteB H; rcases H with ⟨rfl, H⟩ | ⟨rfl, H⟩
     rotate_left
     ·
      have H' := Aside0.mk H
      clear H
      have hnb181 := up8 NB9_1 NB9_2 NB9_3 NB9_4 NB9_5 NB9_6 NB9_7 NB9_8
      obtain ⟨hcz189_0, hfz189_0⟩ := kc1 BK9
      go_wp2_with (first | ((with_reducible refine gate_callee (f := 11) rfl ?_); refine goesL_ (some 131) rfl rfl Try.func11 (by kernel_rfl) rfl #[.agg #[.slice Ao33 t372.length co33]] rfl argR ?_; (with_reducible refine (impl_IsPuzzle.calls kj13 _ _ t372 true _ ?side1 ?side2 A105.out).mono ?_); (case side1 => exact rs HO_377000); (case side2 => exact rl HO_377000); rintro e w190 ⟨rfl, hb⟩; refine ⟨_, rfl, ?_⟩; replace HO_377000 := ko HO_377000 hb; refine mv7 hb BK1 BK2 BK3 BK4 BK5 BK6 BK7 ?_; clear BK1 BK2 BK3 BK4 BK5 BK6 BK7; intro BK1 BK2 BK3 BK4 BK5 BK6 BK7; refine mv2 hb BK8 BK9 ?_; clear BK8 BK9; intro BK8 BK9; replace HB := kw HB hb; (try clear hb); obtain ⟨hcz191_0, hfz191_0⟩ := kc1 BK9))
      go_meet
      case rel => exact ⟨_, (true), (by first | rfl | (simp; done) | (simp [*]; done)), H', ⟨by have := HJ13.out; first | omega | exact Nat.le_refl _⟩, ⟨ro HO_377000⟩, ⟨bk BK1⟩, ⟨bk BK2⟩, ⟨bk BK3⟩, ⟨bk BK4⟩, ⟨bk BK5⟩, ⟨bk BK6⟩, ⟨bk BK7⟩, ⟨bk BK8⟩, ⟨bk BK9⟩, ⟨bw HB⟩⟩
     replace H := iteB H; rcases H with ⟨rfl, H⟩ | ⟨rfl, H⟩
     rotate_left
     ·
      have H' := Aside0.mk H
      clear H
      have hnb170 := up8 NB9_1 NB9_2 NB9_3 NB9_4 NB9_5 NB9_6 NB9_7 NB9_8
      obtain ⟨hcz178_0, hfz178_0⟩ := kc1 BK9
      go_wp2_with (first | ((with_reducible refine gate_callee (f := 11) rfl ?_); refine goesL_ (some 131) rfl rfl Try.func11 (by kernel_rfl) rfl #[.agg #[.slice Ao33 t372.length co33]] rfl argR ?_; (with_reducible refine (impl_IsPuzzle.calls kj13 _ _ t372 true _ ?side1 ?side2 A105.out).mono ?_); (case side1 => exact rs HO_377000); (case side2 => exact rl HO_377000); rintro e w179 ⟨rfl, hb⟩; refine ⟨_, rfl, ?_⟩; replace HO_377000 := ko HO_377000 hb; refine mv7 hb BK1 BK2 BK3 BK4 BK5 BK6 BK7 ?_; clear BK1 BK2 BK3 BK4 BK5 BK6 BK7; intro BK1 BK2 BK3 BK4 BK5 BK6 BK7; refine mv2 hb BK8 BK9 ?_; clear BK8 BK9; intro BK8 BK9; replace HB := kw HB hb; (try clear hb); obtain ⟨hcz180_0, hfz180_0⟩ := kc1 BK9))
      go_meet
      case rel => exact ⟨_, (true), (by first | rfl | (simp; done) | (simp [*]; done)), H', ⟨by have := HJ13.out; first | omega | exact Nat.le_refl _⟩, ⟨ro HO_377000⟩, ⟨bk BK1⟩, ⟨bk BK2⟩, ⟨bk BK3⟩, ⟨bk BK4⟩, ⟨bk BK5⟩, ⟨bk BK6⟩, ⟨bk BK7⟩, ⟨bk BK8⟩, ⟨bk BK9⟩, ⟨bw HB⟩⟩
     replace H := iteB H; rcases H with ⟨rfl, H⟩ | ⟨rfl, H⟩
     rotate_left
     ·
      have H' := Aside0.mk H
      clear H
      have hnb159 := up8 NB9_1 NB9_2 NB9_3 NB9_4 NB9_5 NB9_6 NB9_7 NB9_8
      obtain ⟨hcz167_0, hfz167_0⟩ := kc1 BK9
      go_wp2_with (first | ((with_reducible refine gate_callee (f := 11) rfl ?_); refine goesL_ (some 131) rfl rfl Try.func11 (by kernel_rfl) rfl #[.agg #[.slice Ao33 t372.length co33]] rfl argR ?_; (with_reducible refine (impl_IsPuzzle.calls kj13 _ _ t372 true _ ?side1 ?side2 A105.out).mono ?_); (case side1 => exact rs HO_377000); (case side2 => exact rl HO_377000); rintro e w168 ⟨rfl, hb⟩; refine ⟨_, rfl, ?_⟩; replace HO_377000 := ko HO_377000 hb; refine mv7 hb BK1 BK2 BK3 BK4 BK5 BK6 BK7 ?_; clear BK1 BK2 BK3 BK4 BK5 BK6 BK7; intro BK1 BK2 BK3 BK4 BK5 BK6 BK7; refine mv2 hb BK8 BK9 ?_; clear BK8 BK9; intro BK8 BK9; replace HB := kw HB hb; (try clear hb); obtain ⟨hcz169_0, hfz169_0⟩ := kc1 BK9))
      go_meet
      case rel => exact ⟨_, (true), (by first | rfl | (simp; done) | (simp [*]; done)), H', ⟨by have := HJ13.out; first | omega | exact Nat.le_refl _⟩, ⟨ro HO_377000⟩, ⟨bk BK1⟩, ⟨bk BK2⟩, ⟨bk BK3⟩, ⟨bk BK4⟩, ⟨bk BK5⟩, ⟨bk BK6⟩, ⟨bk BK7⟩, ⟨bk BK8⟩, ⟨bk BK9⟩, ⟨bw HB⟩⟩
     replace H := iteB H; rcases H with ⟨rfl, H⟩ | ⟨rfl, H⟩
     rotate_left
     ·
      have H' := Aside0.mk H
      clear H
      have hnb148 := up8 NB9_1 NB9_2 NB9_3 NB9_4 NB9_5 NB9_6 NB9_7 NB9_8
      obtain ⟨hcz156_0, hfz156_0⟩ := kc1 BK9
      go_wp2_with (first | ((with_reducible refine gate_callee (f := 11) rfl ?_); refine goesL_ (some 131) rfl rfl Try.func11 (by kernel_rfl) rfl #[.agg #[.slice Ao33 t372.length co33]] rfl argR ?_; (with_reducible refine (impl_IsPuzzle.calls kj13 _ _ t372 true _ ?side1 ?side2 A105.out).mono ?_); (case side1 => exact rs HO_377000); (case side2 => exact rl HO_377000); rintro e w157 ⟨rfl, hb⟩; refine ⟨_, rfl, ?_⟩; replace HO_377000 := ko HO_377000 hb; refine mv7 hb BK1 BK2 BK3 BK4 BK5 BK6 BK7 ?_; clear BK1 BK2 BK3 BK4 BK5 BK6 BK7; intro BK1 BK2 BK3 BK4 BK5 BK6 BK7; refine mv2 hb BK8 BK9 ?_; clear BK8 BK9; intro BK8 BK9; replace HB := kw HB hb; (try clear hb); obtain ⟨hcz158_0, hfz158_0⟩ := kc1 BK9))
      go_meet
      case rel => exact ⟨_, (true), (by first | rfl | (simp; done) | (simp [*]; done)), H', ⟨by have := HJ13.out; first | omega | exact Nat.le_refl _⟩, ⟨ro HO_377000⟩, ⟨bk BK1⟩, ⟨bk BK2⟩, ⟨bk BK3⟩, ⟨bk BK4⟩, ⟨bk BK5⟩, ⟨bk BK6⟩, ⟨bk BK7⟩, ⟨bk BK8⟩, ⟨bk BK9⟩, ⟨bw HB⟩⟩
     replace H := iteB H; rcases H with ⟨rfl, H⟩ | ⟨rfl, H⟩
     rotate_left
     ·
      have H' := Aside0.mk H
      clear H
      have hnb137 := up8 NB9_1 NB9_2 NB9_3 NB9_4 NB9_5 NB9_6 NB9_7 NB9_8
      obtain ⟨hcz145_0, hfz145_0⟩ := kc1 BK9
      go_wp2_with (first | ((with_reducible refine gate_callee (f := 11) rfl ?_); refine goesL_ (some 131) rfl rfl Try.func11 (by kernel_rfl) rfl #[.agg #[.slice Ao33 t372.length co33]] rfl argR ?_; (with_reducible refine (impl_IsPuzzle.calls kj13 _ _ t372 true _ ?side1 ?side2 A105.out).mono ?_); (case side1 => exact rs HO_377000); (case side2 => exact rl HO_377000); rintro e w146 ⟨rfl, hb⟩; refine ⟨_, rfl, ?_⟩; replace HO_377000 := ko HO_377000 hb; refine mv7 hb BK1 BK2 BK3 BK4 BK5 BK6 BK7 ?_; clear BK1 BK2 BK3 BK4 BK5 BK6 BK7; intro BK1 BK2 BK3 BK4 BK5 BK6 BK7; refine mv2 hb BK8 BK9 ?_; clear BK8 BK9; intro BK8 BK9; replace HB := kw HB hb; (try clear hb); obtain ⟨hcz147_0, hfz147_0⟩ := kc1 BK9))
      go_meet
      case rel => exact ⟨_, (true), (by first | rfl | (simp; done) | (simp [*]; done)), H', ⟨by have := HJ13.out; first | omega | exact Nat.le_refl _⟩, ⟨ro HO_377000⟩, ⟨bk BK1⟩, ⟨bk BK2⟩, ⟨bk BK3⟩, ⟨bk BK4⟩, ⟨bk BK5⟩, ⟨bk BK6⟩, ⟨bk BK7⟩, ⟨bk BK8⟩, ⟨bk BK9⟩, ⟨bw HB⟩⟩
     replace H := iteB H; rcases H with ⟨rfl, H⟩ | ⟨rfl, H⟩
     ·
      have H' := Aside0.mk H
      clear H
      have hnb115 := up8 NB9_1 NB9_2 NB9_3 NB9_4 NB9_5 NB9_6 NB9_7 NB9_8
      obtain ⟨hcz123_0, hfz123_0⟩ := kc1 BK9
      go_wp2_with (first | ((with_reducible refine gate_callee (f := 11) rfl ?_); refine goesL_ (some 131) rfl rfl Try.func11 (by kernel_rfl) rfl #[.agg #[.slice Ao33 t372.length co33]] rfl argR ?_; (with_reducible refine (impl_IsPuzzle.calls kj13 _ _ t372 true _ ?side1 ?side2 A105.out).mono ?_); (case side1 => exact rs HO_377000); (case side2 => exact rl HO_377000); rintro e w124 ⟨rfl, hb⟩; refine ⟨_, rfl, ?_⟩; replace HO_377000 := ko HO_377000 hb; refine mv7 hb BK1 BK2 BK3 BK4 BK5 BK6 BK7 ?_; clear BK1 BK2 BK3 BK4 BK5 BK6 BK7; intro BK1 BK2 BK3 BK4 BK5 BK6 BK7; refine mv2 hb BK8 BK9 ?_; clear BK8 BK9; intro BK8 BK9; replace HB := kw HB hb; (try clear hb); obtain ⟨hcz125_0, hfz125_0⟩ := kc1 BK9))
      go_meet
      case rel => exact ⟨_, (!t391), (by first | rfl | (simp; done) | (simp [*]; done)), H', ⟨by have := HJ13.out; first | omega | exact Nat.le_refl _⟩, ⟨ro HO_377000⟩, ⟨bk BK1⟩, ⟨bk BK2⟩, ⟨bk BK3⟩, ⟨bk BK4⟩, ⟨bk BK5⟩, ⟨bk BK6⟩, ⟨bk BK7⟩, ⟨bk BK8⟩, ⟨bk BK9⟩, ⟨bw HB⟩⟩
     have H' := Aside0.mk H
     clear H
     have hnb126 := up8 NB9_1 NB9_2 NB9_3 NB9_4 NB9_5 NB9_6 NB9_7 NB9_8
     obtain ⟨hcz134_0, hfz134_0⟩ := kc1 BK9
     go_wp2_with (first | ((with_reducible refine gate_callee (f := 11) rfl ?_); refine goesL_ (some 131) rfl rfl Try.func11 (by kernel_rfl) rfl #[.agg #[.slice Ao33 t372.length co33]] rfl argR ?_; (with_reducible refine (impl_IsPuzzle.calls kj13 _ _ t372 true _ ?side1 ?side2 A105.out).mono ?_); (case side1 => exact rs HO_377000); (case side2 => exact rl HO_377000); rintro e w135 ⟨rfl, hb⟩; refine ⟨_, rfl, ?_⟩; replace HO_377000 := ko HO_377000 hb; refine mv7 hb BK1 BK2 BK3 BK4 BK5 BK6 BK7 ?_; clear BK1 BK2 BK3 BK4 BK5 BK6 BK7; intro BK1 BK2 BK3 BK4 BK5 BK6 BK7; refine mv2 hb BK8 BK9 ?_; clear BK8 BK9; intro BK8 BK9; replace HB := kw HB hb; (try clear hb); obtain ⟨hcz136_0, hfz136_0⟩ := kc1 BK9))
     go_meet
     case rel => exact ⟨_, (true), (by first | rfl | (simp; done) | (simp [*]; done)), H', ⟨by have := HJ13.out; first | omega | exact Nat.le_refl _⟩, ⟨ro HO_377000⟩, ⟨bk BK1⟩, ⟨bk BK2⟩, ⟨bk BK3⟩, ⟨bk BK4⟩, ⟨bk BK5⟩, ⟨bk BK6⟩, ⟨bk BK7⟩, ⟨bk BK8⟩, ⟨bk BK9⟩, ⟨bw HB⟩⟩
    replace H := iteC H; rcases H with ⟨c192, H⟩ | ⟨c192, H⟩
    rotate_left
    ·
     have c192b0 : (t383 == 0) = false := beq_eq_false_iff_ne.mpr c192
     have c192b1 : (t383 != 0) = true := bne_iff_ne.mpr c192
     have H' := Aside0.mk H
     clear H
     have hnb276 := up8 NB9_1 NB9_2 NB9_3 NB9_4 NB9_5 NB9_6 NB9_7 NB9_8
     obtain ⟨hcz284_0, hfz284_0⟩ := kc1 BK9
     go_wp2_with (first | ((with_reducible refine gate_callee (f := 11) rfl ?_); refine goesL_ (some 131) rfl rfl Try.func11 (by kernel_rfl) rfl #[.agg #[.slice Ao33 t372.length co33]] rfl argR ?_; (with_reducible refine (impl_IsPuzzle.calls kj13 _ _ t372 true _ ?side1 ?side2 A105.out).mono ?_); (case side1 => exact rs HO_377000); (case side2 => exact rl HO_377000); rintro e w285 ⟨rfl, hb⟩; refine ⟨_, rfl, ?_⟩; replace HO_377000 := ko HO_377000 hb; refine mv7 hb BK1 BK2 BK3 BK4 BK5 BK6 BK7 ?_; clear BK1 BK2 BK3 BK4 BK5 BK6 BK7; intro BK1 BK2 BK3 BK4 BK5 BK6 BK7; refine mv2 hb BK8 BK9 ?_; clear BK8 BK9; intro BK8 BK9; replace HB := kw HB hb; (try clear hb); obtain ⟨hcz286_0, hfz286_0⟩ := kc1 BK9))
     go_meet
     case rel => exact ⟨_, (true), (by first | rfl | (simp; done) | (simp [*]; done)), H', ⟨by have := HJ13.out; first | omega | exact Nat.le_refl _⟩, ⟨ro HO_377000⟩, ⟨bk BK1⟩, ⟨bk BK2⟩, ⟨bk BK3⟩, ⟨bk BK4⟩, ⟨bk BK5⟩, ⟨bk BK6⟩, ⟨bk BK7⟩, ⟨bk BK8⟩, ⟨bk BK9⟩, ⟨bw HB⟩⟩
    have c192b0 : (t383 == 0) = true := beq_iff_eq.mpr c192
    have c192b1 : (t383 != 0) = false := bne_eq_false_iff_eq.mpr c192
    clear c192
    replace H := iteB H; rcases H with ⟨rfl, H⟩ | ⟨rfl, H⟩
    rotate_left
    ·
     have H' := Aside0.mk H
     clear H
     have hnb265 := up8 NB9_1 NB9_2 NB9_3 NB9_4 NB9_5 NB9_6 NB9_7 NB9_8
     obtain ⟨hcz273_0, hfz273_0⟩ := kc1 BK9
     go_wp2_with (first | ((with_reducible refine gate_callee (f := 11) rfl ?_); refine goesL_ (some 131) rfl rfl Try.func11 (by kernel_rfl) rfl #[.agg #[.slice Ao33 t372.length co33]] rfl argR ?_; (with_reducible refine (impl_IsPuzzle.calls kj13 _ _ t372 true _ ?side1 ?side2 A105.out).mono ?_); (case side1 => exact rs HO_377000); (case side2 => exact rl HO_377000); rintro e w274 ⟨rfl, hb⟩; refine ⟨_, rfl, ?_⟩; replace HO_377000 := ko HO_377000 hb; refine mv7 hb BK1 BK2 BK3 BK4 BK5 BK6 BK7 ?_; clear BK1 BK2 BK3 BK4 BK5 BK6 BK7; intro BK1 BK2 BK3 BK4 BK5 BK6 BK7; refine mv2 hb BK8 BK9 ?_; clear BK8 BK9; intro BK8 BK9; replace HB := kw HB hb; (try clear hb); obtain ⟨hcz275_0, hfz275_0⟩ := kc1 BK9))
     go_meet
     case rel => exact ⟨_, (true), (by first | rfl | (simp; done) | (simp [*]; done)), H', ⟨by have := HJ13.out; first | omega | exact Nat.le_refl _⟩, ⟨ro HO_377000⟩, ⟨bk BK1⟩, ⟨bk BK2⟩, ⟨bk BK3⟩, ⟨bk BK4⟩, ⟨bk BK5⟩, ⟨bk BK6⟩, ⟨bk BK7⟩, ⟨bk BK8⟩, ⟨bk BK9⟩, ⟨bw HB⟩⟩
    replace H := iteB H; rcases H with ⟨rfl, H⟩ | ⟨rfl, H⟩
    rotate_left
    ·
     have H' := Aside0.mk H
     clear H
     have hnb254 := up8 NB9_1 NB9_2 NB9_3 NB9_4 NB9_5 NB9_6 NB9_7 NB9_8
     obtain ⟨hcz262_0, hfz262_0⟩ := kc1 BK9
     go_wp2_with (first | ((with_reducible refine gate_callee (f := 11) rfl ?_); refine goesL_ (some 131) rfl rfl Try.func11 (by kernel_rfl) rfl #[.agg #[.slice Ao33 t372.length co33]] rfl argR ?_; (with_reducible refine (impl_IsPuzzle.calls kj13 _ _ t372 true _ ?side1 ?side2 A105.out).mono ?_); (case side1 => exact rs HO_377000); (case side2 => exact rl HO_377000); rintro e w263 ⟨rfl, hb⟩; refine ⟨_, rfl, ?_⟩; replace HO_377000 := ko HO_377000 hb; refine mv7 hb BK1 BK2 BK3 BK4 BK5 BK6 BK7 ?_; clear BK1 BK2 BK3 BK4 BK5 BK6 BK7; intro BK1 BK2 BK3 BK4 BK5 BK6 BK7; refine mv2 hb BK8 BK9 ?_; clear BK8 BK9; intro BK8 BK9; replace HB := kw HB hb; (try clear hb); obtain ⟨hcz264_0, hfz264_0⟩ := kc1 BK9))
     go_meet
     case rel => exact ⟨_, (true), (by first | rfl | (simp; done) | (simp [*]; done)), H', ⟨by have := HJ13.out; first | omega | exact Nat.le_refl _⟩, ⟨ro HO_377000⟩, ⟨bk BK1⟩, ⟨bk BK2⟩, ⟨bk BK3⟩, ⟨bk BK4⟩, ⟨bk BK5⟩, ⟨bk BK6⟩, ⟨bk BK7⟩, ⟨bk BK8⟩, ⟨bk BK9⟩, ⟨bw HB⟩⟩
    replace H := iteB H; rcases H with ⟨rfl, H⟩ | ⟨rfl, H⟩
    rotate_left
    ·
     have H' := Aside0.mk H
     clear H
     have hnb243 := up8 NB9_1 NB9_2 NB9_3 NB9_4 NB9_5 NB9_6 NB9_7 NB9_8
     obtain ⟨hcz251_0, hfz251_0⟩ := kc1 BK9
     go_wp2_with (first | ((with_reducible refine gate_callee (f := 11) rfl ?_); refine goesL_ (some 131) rfl rfl Try.func11 (by kernel_rfl) rfl #[.agg #[.slice Ao33 t372.length co33]] rfl argR ?_; (with_reducible refine (impl_IsPuzzle.calls kj13 _ _ t372 true _ ?side1 ?side2 A105.out).mono ?_); (case side1 => exact rs HO_377000); (case side2 => exact rl HO_377000); rintro e w252 ⟨rfl, hb⟩; refine ⟨_, rfl, ?_⟩; replace HO_377000 := ko HO_377000 hb; refine mv7 hb BK1 BK2 BK3 BK4 BK5 BK6 BK7 ?_; clear BK1 BK2 BK3 BK4 BK5 BK6 BK7; intro BK1 BK2 BK3 BK4 BK5 BK6 BK7; refine mv2 hb BK8 BK9 ?_; clear BK8 BK9; intro BK8 BK9; replace HB := kw HB hb; (try clear hb); obtain ⟨hcz253_0, hfz253_0⟩ := kc1 BK9))
     go_meet
     case rel => exact ⟨_, (true), (by first | rfl | (simp; done) | (simp [*]; done)), H', ⟨by have := HJ13.out; first | omega | exact Nat.le_refl _⟩, ⟨ro HO_377000⟩, ⟨bk BK1⟩, ⟨bk BK2⟩, ⟨bk BK3⟩, ⟨bk BK4⟩, ⟨bk BK5⟩, ⟨bk BK6⟩, ⟨bk BK7⟩, ⟨bk BK8⟩, ⟨bk BK9⟩, ⟨bw HB⟩⟩
    replace H := iteB H; rcases H with ⟨rfl, H⟩ | ⟨rfl, H⟩
    rotate_left
    ·
     have H' := Aside0.mk H
     clear H
     have hnb232 := up8 NB9_1 NB9_2 NB9_3 NB9_4 NB9_5 NB9_6 NB9_7 NB9_8
     obtain ⟨hcz240_0, hfz240_0⟩ := kc1 BK9
     go_wp2_with (first | ((with_reducible refine gate_callee (f := 11) rfl ?_); refine goesL_ (some 131) rfl rfl Try.func11 (by kernel_rfl) rfl #[.agg #[.slice Ao33 t372.length co33]] rfl argR ?_; (with_reducible refine (impl_IsPuzzle.calls kj13 _ _ t372 true _ ?side1 ?side2 A105.out).mono ?_); (case side1 => exact rs HO_377000); (case side2 => exact rl HO_377000); rintro e w241 ⟨rfl, hb⟩; refine ⟨_, rfl, ?_⟩; replace HO_377000 := ko HO_377000 hb; refine mv7 hb BK1 BK2 BK3 BK4 BK5 BK6 BK7 ?_; clear BK1 BK2 BK3 BK4 BK5 BK6 BK7; intro BK1 BK2 BK3 BK4 BK5 BK6 BK7; refine mv2 hb BK8 BK9 ?_; clear BK8 BK9; intro BK8 BK9; replace HB := kw HB hb; (try clear hb); obtain ⟨hcz242_0, hfz242_0⟩ := kc1 BK9))
     go_meet
     case rel => exact ⟨_, (true), (by first | rfl | (simp; done) | (simp [*]; done)), H', ⟨by have := HJ13.out; first | omega | exact Nat.le_refl _⟩, ⟨ro HO_377000⟩, ⟨bk BK1⟩, ⟨bk BK2⟩, ⟨bk BK3⟩, ⟨bk BK4⟩, ⟨bk BK5⟩, ⟨bk BK6⟩, ⟨bk BK7⟩, ⟨bk BK8⟩, ⟨bk BK9⟩, ⟨bw HB⟩⟩
    replace H := iteB H; rcases H with ⟨rfl, H⟩ | ⟨rfl, H⟩
    rotate_left
    ·
     have H' := Aside0.mk H
     clear H
     have hnb221 := up8 NB9_1 NB9_2 NB9_3 NB9_4 NB9_5 NB9_6 NB9_7 NB9_8
     obtain ⟨hcz229_0, hfz229_0⟩ := kc1 BK9
     go_wp2_with (first | ((with_reducible refine gate_callee (f := 11) rfl ?_); refine goesL_ (some 131) rfl rfl Try.func11 (by kernel_rfl) rfl #[.agg #[.slice Ao33 t372.length co33]] rfl argR ?_; (with_reducible refine (impl_IsPuzzle.calls kj13 _ _ t372 true _ ?side1 ?side2 A105.out).mono ?_); (case side1 => exact rs HO_377000); (case side2 => exact rl HO_377000); rintro e w230 ⟨rfl, hb⟩; refine ⟨_, rfl, ?_⟩; replace HO_377000 := ko HO_377000 hb; refine mv7 hb BK1 BK2 BK3 BK4 BK5 BK6 BK7 ?_; clear BK1 BK2 BK3 BK4 BK5 BK6 BK7; intro BK1 BK2 BK3 BK4 BK5 BK6 BK7; refine mv2 hb BK8 BK9 ?_; clear BK8 BK9; intro BK8 BK9; replace HB := kw HB hb; (try clear hb); obtain ⟨hcz231_0, hfz231_0⟩ := kc1 BK9))
     go_meet
     case rel => exact ⟨_, (true), (by first | rfl | (simp; done) | (simp [*]; done)), H', ⟨by have := HJ13.out; first | omega | exact Nat.le_refl _⟩, ⟨ro HO_377000⟩, ⟨bk BK1⟩, ⟨bk BK2⟩, ⟨bk BK3⟩, ⟨bk BK4⟩, ⟨bk BK5⟩, ⟨bk BK6⟩, ⟨bk BK7⟩, ⟨bk BK8⟩, ⟨bk BK9⟩, ⟨bw HB⟩⟩
    replace H := iteB H; rcases H with ⟨rfl, H⟩ | ⟨rfl, H⟩
    ·
     have H' := Aside0.mk H
     clear H
     have hnb199 := up8 NB9_1 NB9_2 NB9_3 NB9_4 NB9_5 NB9_6 NB9_7 NB9_8
     obtain ⟨hcz207_0, hfz207_0⟩ := kc1 BK9
     go_wp2_with (first | ((with_reducible refine gate_callee (f := 11) rfl ?_); refine goesL_ (some 131) rfl rfl Try.func11 (by kernel_rfl) rfl #[.agg #[.slice Ao33 t372.length co33]] rfl argR ?_; (with_reducible refine (impl_IsPuzzle.calls kj13 _ _ t372 true _ ?side1 ?side2 A105.out).mono ?_); (case side1 => exact rs HO_377000); (case side2 => exact rl HO_377000); rintro e w208 ⟨rfl, hb⟩; refine ⟨_, rfl, ?_⟩; replace HO_377000 := ko HO_377000 hb; refine mv7 hb BK1 BK2 BK3 BK4 BK5 BK6 BK7 ?_; clear BK1 BK2 BK3 BK4 BK5 BK6 BK7; intro BK1 BK2 BK3 BK4 BK5 BK6 BK7; refine mv2 hb BK8 BK9 ?_; clear BK8 BK9; intro BK8 BK9; replace HB := kw HB hb; (try clear hb); obtain ⟨hcz209_0, hfz209_0⟩ := kc1 BK9))
     go_meet
     case rel => exact ⟨_, (!t391), (by first | rfl | (simp; done) | (simp [*]; done)), H', ⟨by have := HJ13.out; first | omega | exact Nat.le_refl _⟩, ⟨ro HO_377000⟩, ⟨bk BK1⟩, ⟨bk BK2⟩, ⟨bk BK3⟩, ⟨bk BK4⟩, ⟨bk BK5⟩, ⟨bk BK6⟩, ⟨bk BK7⟩, ⟨bk BK8⟩, ⟨bk BK9⟩, ⟨bw HB⟩⟩
    have H' := Aside0.mk H
    clear H
    have hnb210 := up8 NB9_1 NB9_2 NB9_3 NB9_4 NB9_5 NB9_6 NB9_7 NB9_8
    obtain ⟨hcz218_0, hfz218_0⟩ := kc1 BK9
    go_wp2_with (first | ((with_reducible refine gate_callee (f := 11) rfl ?_); refine goesL_ (some 131) rfl rfl Try.func11 (by kernel_rfl) rfl #[.agg #[.slice Ao33 t372.length co33]] rfl argR ?_; (with_reducible refine (impl_IsPuzzle.calls kj13 _ _ t372 true _ ?side1 ?side2 A105.out).mono ?_); (case side1 => exact rs HO_377000); (case side2 => exact rl HO_377000); rintro e w219 ⟨rfl, hb⟩; refine ⟨_, rfl, ?_⟩; replace HO_377000 := ko HO_377000 hb; refine mv7 hb BK1 BK2 BK3 BK4 BK5 BK6 BK7 ?_; clear BK1 BK2 BK3 BK4 BK5 BK6 BK7; intro BK1 BK2 BK3 BK4 BK5 BK6 BK7; refine mv2 hb BK8 BK9 ?_; clear BK8 BK9; intro BK8 BK9; replace HB := kw HB hb; (try clear hb); obtain ⟨hcz220_0, hfz220_0⟩ := kc1 BK9))
    go_meet
    case rel => exact ⟨_, (true), (by first | rfl | (simp; done) | (simp [*]; done)), H', ⟨by have := HJ13.out; first | omega | exact Nat.le_refl _⟩, ⟨ro HO_377000⟩, ⟨bk BK1⟩, ⟨bk BK2⟩, ⟨bk BK3⟩, ⟨bk BK4⟩, ⟨bk BK5⟩, ⟨bk BK6⟩, ⟨bk BK7⟩, ⟨bk BK8⟩, ⟨bk BK9⟩, ⟨bw HB⟩⟩
   case rest =>
    clear HC86
    try clear hcz101_0
    try clear hcz101_1
    try clear hcz103_0
    try clear hcz103_1
    try clear hcz95_0
    try clear hcz95_1
    try clear hcz97_0
    try clear hcz97_1
    try clear hcz99_0
    try clear hcz99_1
    try clear hfz101_0
    try clear hfz101_1
    try clear hfz103_0
    try clear hfz103_1
    try clear hfz95_0
    try clear hfz95_1
    try clear hfz97_0
    try clear hfz97_1
    try clear hfz99_0
    try clear hfz99_1
    obtain ⟨kq, x175_85, rfl, HA, HJ85, HO_377000, BK1, BK2, BK3, BK4, BK5, BK6, BK7, BK8, BK9, HB⟩ := hcut
    cases kq with
    | zero => exact absurd HA.out (by simp [laws_FnSnailsHiddenOfAll.j1])
    | succ kj85 =>
     have H := HA.out
     clear HA
     simp only [laws_FnSnailsHiddenOfAll.j1] at H
     replace H := iteB H; rcases H with ⟨rfl, H⟩ | ⟨rfl, H⟩
     ·
      obtain rfl := Option.some.inj H
      go_wp2
      go_ret
      exact ⟨eqR, bw HB⟩
     have H' := Aside0.mk H
     clear H
     have hnb309 := up8 NB9_1 NB9_2 NB9_3 NB9_4 NB9_5 NB9_6 NB9_7 NB9_8
     obtain ⟨hcz317_0, hfz317_0⟩ := kc1 BK9
     go_wp2
     go_loopg [179] kj85 (fun kq v179 w' => ∃ (x179_3 : Int), v179 = .int .i64 x179_3 ∧ Aside0 (laws_FnSnailsHiddenOfAll.l0 kq a7 t372 (t372.length : Int) x179_3 a0_0 a0_1 l3_0 l4_0 a5_0 a5_1 a5_2 l6_0 a8_0 a8_1 a8_2 a9_0 a9_1 a10_0 a10_1 a10_2 = some r) ∧ Aside0 (kq ≤ kj85) ∧ Aside0 (Kd.R k28 28 w' w.heap.size (fun k_ => k_ ≠ gb4 ∧ k_ ≠ gb6 ∧ k_ ≠ gb8) (.slice Ao33 t372.length co33) t372) ∧ Aside0 (Kd.R k28 28 w' w.heap.size (fun k_ => k_ ≠ gb4 ∧ k_ ≠ gb6 ∧ k_ ≠ gb8) (.slice Ao33 t372.length co33) t372) ∧ Aside0 (w'.heap[gb1]? = some (.cells #[.int .i64 a0_0, .int .i64 a0_1] 23 (0, 0))) ∧ Aside0 (w'.heap[gb2]? = some (.cells #[(.slice A3_0 l3_0.length c3_0)] 26 (0, 0))) ∧ Aside0 (w'.heap[gb3]? = some (.cells #[(.slice A4_0 l4_0.length c4_0)] 26 (0, 0))) ∧ Aside0 (w'.heap[gb4]? = some (.cells #[.int .i64 a5_0, .int .i64 a5_1, .int .i64 a5_2] 28 (0, 0))) ∧ Aside0 (w'.heap[gb5]? = some (.cells #[(.slice A6_0 l6_0.length c6_0)] 26 (0, 0))) ∧ Aside0 (w'.heap[gb6]? = some (.cells #[.int .i64 a8_0, .int .i64 a8_1, .int .i64 a8_2] 28 (0, 0))) ∧ Aside0 (w'.heap[gb7]? = some (.cells #[.int .i64 a9_0, .int .i64 a9_1] 23 (0, 0))) ∧ Aside0 (w'.heap[gb8]? = some (.cells #[.int .i64 a10_0, .int .i64 a10_1, .int .i64 a10_2] 28 (0, 0))) ∧ Aside0 (w'.heap[gb9]? = some (.cells #[(.slice Ao33 t372.length co33)] 26 (0, 0))) ∧ Aside0 (Below w.heap.size w w'))
     case atStart => exact ⟨(0), (by first | rfl | (simp; done) | (simp [*]; done)), H', ⟨Nat.le_refl _⟩, ⟨ro HO_377000⟩, ⟨ro HO_377000⟩, ⟨bk BK1⟩, ⟨bk BK2⟩, ⟨bk BK3⟩, ⟨bk BK4⟩, ⟨bk BK5⟩, ⟨bk BK6⟩, ⟨bk BK7⟩, ⟨bk BK8⟩, ⟨bk BK9⟩, ⟨bw HB⟩⟩
     case round =>
      clear H'
      try clear hcz101_0
      try clear hcz101_1
      try clear hcz103_0
      try clear hcz103_1
      try clear hcz317_0
      try clear hcz95_0
      try clear hcz95_1
      try clear hcz97_0
      try clear hcz97_1
      try clear hcz99_0
      try clear hcz99_1
      try clear hfz101_0
      try clear hfz101_1
      try clear hfz103_0
      try clear hfz103_1
      try clear hfz317_0
      try clear hfz95_0
      try clear hfz95_1
      try clear hfz97_0
      try clear hfz97_1
      try clear hfz99_0
      try clear hfz99_1
      obtain ⟨x179_3, rfl, HA, HK3, HO_177, HO_377000, BK1, BK2, BK3, BK4, BK5, BK6, BK7, BK8, BK9, HB⟩ := hrel
      cases gk with
      | zero => exact absurd HA.out (by simp [laws_FnSnailsHiddenOfAll.l0])
      | succ k3 =>
       have H := HA.out
       clear HA
       simp only [laws_FnSnailsHiddenOfAll.l0] at H
       replace H := iteC H; rcases H with ⟨c318, H⟩ | ⟨c318, H⟩
       rotate_left
       ·
        have c318b0 : decide (x179_3 < (t372.length : Int)) = false := decide_eq_false c318
        clear c318
        have H' := Aside0.mk H
        clear H
        go_wp2
        go_meet
        case rel => exact ⟨_, H', ⟨by have := HJ13.out; have := HJ85.out; have := HK3.out; first | omega | exact Nat.le_refl _⟩, ⟨bk BK2⟩, ⟨bk BK3⟩, ⟨bk BK4⟩, ⟨bk BK5⟩, ⟨bk BK6⟩, ⟨bk BK7⟩, ⟨bk BK8⟩, ⟨bw HB⟩⟩
       have c318b0 : decide (x179_3 < (t372.length : Int)) = true := decide_eq_true c318
       clear c318
       replace H := iteS H; obtain ⟨c319, H⟩ := H
       have c319b0 : decide (0 ≤ x179_3) = true := decide_eq_true c319
       clear c319
       replace H := iteS H; obtain ⟨c320, H⟩ := H
       have c320b0 : decide (x179_3 < (t372.length : Int)) = true := decide_eq_true c320
       clear c320
       replace H := bindS H; obtain ⟨⟨t396, t397⟩, A321, H⟩ := H
       replace H := iteB H; rcases H with ⟨rfl, H⟩ | ⟨rfl, H⟩
       rotate_left
       ·
        obtain rfl := Option.some.inj H
        have p394 : 0 ≤ (x179_3 : Int) := of_decide_eq_true (by first | (with_reducible assumption) | assumption)
        have q394 : x179_3 < (t372.length : Int) := of_decide_eq_true (by first | (with_reducible assumption) | assumption)
        obtain ⟨ad394, e394, hx394_0, hx394_1, hx394_2⟩ := at_T28 (Kd.R_reads' HO_177.out).2.2 x179_3 p394 q394
        cases e394
        replace p394 := eq_true p394
        replace q394 := eq_true q394
        go_wp2_with (first | ((with_reducible refine gate_dst (N := 38) rfl ?_); (try (refine gate_guard (by rfl) ?_; dsimp only)); refine boxK HB (N := 38) (cs := #[.int .i64 0, .int .i64 0, .int .i64 0]) (t := 28) (h := ?_); clear HB; intro gb11 hg w366 BK11 GW11 GE11 HB hb; replace HO_177 := Aside0.mk (Kd.R_below (Kd.R_elderB (ro HO_177) gb11 (Nat.le_of_eq hg.symm)) hb); replace HO_377000 := Aside0.mk (Kd.R_below (Kd.R_elderB (ro HO_377000) gb11 (Nat.le_of_eq hg.symm)) hb); obtain ⟨NB1_11, NB11_1, NB2_11, NB11_2, NB3_11, NB11_3, NB4_11, NB11_4, NB5_11, NB11_5, NB6_11, NB11_6, NB7_11, NB11_7, NB8_11, NB11_8⟩ := nv8 hg BK1 BK2 BK3 BK4 BK5 BK6 BK7 BK8; refine mv8 hb BK1 BK2 BK3 BK4 BK5 BK6 BK7 BK8 ?_; clear BK1 BK2 BK3 BK4 BK5 BK6 BK7 BK8; intro BK1 BK2 BK3 BK4 BK5 BK6 BK7 BK8; obtain ⟨NB9_11, NB11_9⟩ := nv1 hg BK9; replace BK9 := kb BK9 hb; clear hb hg; have hnb367 := up8 NB11_1 NB11_2 NB11_3 NB11_4 NB11_5 NB11_6 NB11_7 NB11_8; have hnb375 := up1 NB11_9; obtain ⟨hcz376_0, hcz376_1, hcz376_2, hfz376_0, hfz376_1, hfz376_2⟩ := kc3 BK11; have hnb377 := up8 NB1_2 NB1_3 NB1_4 NB1_5 NB1_6 NB1_7 NB1_8 NB1_9; obtain ⟨hcz385_0, hcz385_1, hfz385_0, hfz385_1⟩ := kc2 BK1) | ((with_reducible refine gate_callee (f := 9) rfl ?_); refine goesL_ (some 186) rfl rfl Try.func9 (by kernel_rfl) rfl #[.agg #[.int .i64 ((rd_T28 t372 x179_3).f0), .int .i64 ((rd_T28 t372 x179_3).f1), .int .i64 ((rd_T28 t372 x179_3).f2)], .agg #[.int .i64 a0_0, .int .i64 a0_1]] rfl argR ?_; (with_reducible refine (impl_DoesFit.calls ((rd_T28 t372 x179_3).f0) ((rd_T28 t372 x179_3).f1) ((rd_T28 t372 x179_3).f2) a0_0 a0_1 t396 false _ A321.out).mono ?_); rintro e w386 ⟨rfl, hb⟩; refine ⟨_, rfl, ?_⟩; replace HO_177 := Aside0.mk (Kd.R_below (by (with_reducible repeat (first | apply Kd.R_alloc | apply Kd.R_drewN | apply Kd.R_drew)); exact (Kd.R_mono (Kd.R_far (p := ⟨gb11, 2, none⟩) (Kd.R_far (p := ⟨gb11, 1, none⟩) (Kd.R_far (p := ⟨gb11, 0, none⟩) (Kd.R_mono HO_177.out (fun k_ hk => (⟨hk, hk.2⟩ : _ ∧ k_ ≠ gb11))) (fun _ hk => hk.2) (.int .i64 ((rd_T28 t372 x179_3).f0))) (fun _ hk => hk.2) (.int .i64 ((rd_T28 t372 x179_3).f1))) (fun _ hk => hk.2) (.int .i64 ((rd_T28 t372 x179_3).f2))) (fun _ h_ => h_.1))) hb); replace HO_377000 := Aside0.mk (Kd.R_below (by (with_reducible repeat (first | apply Kd.R_alloc | apply Kd.R_drewN | apply Kd.R_drew)); exact (Kd.R_mono (Kd.R_far (p := ⟨gb11, 2, none⟩) (Kd.R_far (p := ⟨gb11, 1, none⟩) (Kd.R_far (p := ⟨gb11, 0, none⟩) (Kd.R_mono HO_377000.out (fun k_ hk => (⟨hk, hk.2⟩ : _ ∧ k_ ≠ gb11))) (fun _ hk => hk.2) (.int .i64 ((rd_T28 t372 x179_3).f0))) (fun _ hk => hk.2) (.int .i64 ((rd_T28 t372 x179_3).f1))) (fun _ hk => hk.2) (.int .i64 ((rd_T28 t372 x179_3).f2))) (fun _ h_ => h_.1))) hb); replace BK1 := Aside0.mk (blk_below (g := gb1) (o := .cells #[.int .i64 a0_0, .int .i64 a0_1] 23 (0, 0)) (by (with_reducible repeat (first | refine blk_drewN ?_ _ | refine blk_drew ?_ | refine blk_alloc ?_ _)); refine blk_far ?_ NB1_11.out _; (with_reducible repeat (first | refine blk_drewN ?_ _ | refine blk_drew ?_ | refine blk_alloc ?_ _)); refine blk_far ?_ NB1_11.out _; (with_reducible repeat (first | refine blk_drewN ?_ _ | refine blk_drew ?_ | refine blk_alloc ?_ _)); refine blk_far ?_ NB1_11.out _; (with_reducible repeat (first | refine blk_drewN ?_ _ | refine blk_drew ?_ | refine blk_alloc ?_ _)); exact BK1.out) hb); replace BK2 := Aside0.mk (blk_below (g := gb2) (o := .cells #[.slice A3_0 l3_0.length c3_0] 26 (0, 0)) (by (with_reducible repeat (first | refine blk_drewN ?_ _ | refine blk_drew ?_ | refine blk_alloc ?_ _)); refine blk_far ?_ NB2_11.out _; (with_reducible repeat (first | refine blk_drewN ?_ _ | refine blk_drew ?_ | refine blk_alloc ?_ _)); refine blk_far ?_ NB2_11.out _; (with_reducible repeat (first | refine blk_drewN ?_ _ | refine blk_drew ?_ | refine blk_alloc ?_ _)); refine blk_far ?_ NB2_11.out _; (with_reducible repeat (first | refine blk_drewN ?_ _ | refine blk_drew ?_ | refine blk_alloc ?_ _)); exact BK2.out) hb); replace BK3 := Aside0.mk (blk_below (g := gb3) (o := .cells #[.slice A4_0 l4_0.length c4_0] 26 (0, 0)) (by (with_reducible repeat (first | refine blk_drewN ?_ _ | refine blk_drew ?_ | refine blk_alloc ?_ _)); refine blk_far ?_ NB3_11.out _; (with_reducible repeat (first | refine blk_drewN ?_ _ | refine blk_drew ?_ | refine blk_alloc ?_ _)); refine blk_far ?_ NB3_11.out _; (with_reducible repeat (first | refine blk_drewN ?_ _ | refine blk_drew ?_ | refine blk_alloc ?_ _)); refine blk_far ?_ NB3_11.out _; (with_reducible repeat (first | refine blk_drewN ?_ _ | refine blk_drew ?_ | refine blk_alloc ?_ _)); exact BK3.out) hb); replace BK4 := Aside0.mk (blk_below (g := gb4) (o := .cells #[.int .i64 a5_0, .int .i64 a5_1, .int .i64 a5_2] 28 (0, 0)) (by (with_reducible repeat (first | refine blk_drewN ?_ _ | refine blk_drew ?_ | refine blk_alloc ?_ _)); refine blk_far ?_ NB4_11.out _; (with_reducible repeat (first | refine blk_drewN ?_ _ | refine blk_drew ?_ | refine blk_alloc ?_ _)); refine blk_far ?_ NB4_11.out _; (with_reducible repeat (first | refine blk_drewN ?_ _ | refine blk_drew ?_ | refine blk_alloc ?_ _)); refine blk_far ?_ NB4_11.out _; (with_reducible repeat (first | refine blk_drewN ?_ _ | refine blk_drew ?_ | refine blk_alloc ?_ _)); exact BK4.out) hb); replace BK5 := Aside0.mk (blk_below (g := gb5) (o := .cells #[.slice A6_0 l6_0.length c6_0] 26 (0, 0)) (by (with_reducible repeat (first | refine blk_drewN ?_ _ | refine blk_drew ?_ | refine blk_alloc ?_ _)); refine blk_far ?_ NB5_11.out _; (with_reducible repeat (first | refine blk_drewN ?_ _ | refine blk_drew ?_ | refine blk_alloc ?_ _)); refine blk_far ?_ NB5_11.out _; (with_reducible repeat (first | refine blk_drewN ?_ _ | refine blk_drew ?_ | refine blk_alloc ?_ _)); refine blk_far ?_ NB5_11.out _; (with_reducible repeat (first | refine blk_drewN ?_ _ | refine blk_drew ?_ | refine blk_alloc ?_ _)); exact BK5.out) hb); replace BK6 := Aside0.mk (blk_below (g := gb6) (o := .cells #[.int .i64 a8_0, .int .i64 a8_1, .int .i64 a8_2] 28 (0, 0)) (by (with_reducible repeat (first | refine blk_drewN ?_ _ | refine blk_drew ?_ | refine blk_alloc ?_ _)); refine blk_far ?_ NB6_11.out _; (with_reducible repeat (first | refine blk_drewN ?_ _ | refine blk_drew ?_ | refine blk_alloc ?_ _)); refine blk_far ?_ NB6_11.out _; (with_reducible repeat (first | refine blk_drewN ?_ _ | refine blk_drew ?_ | refine blk_alloc ?_ _)); refine blk_far ?_ NB6_11.out _; (with_reducible repeat (first | refine blk_drewN ?_ _ | refine blk_drew ?_ | refine blk_alloc ?_ _)); exact BK6.out) hb); replace BK7 := Aside0.mk (blk_below (g := gb7) (o := .cells #[.int .i64 a9_0, .int .i64 a9_1] 23 (0, 0)) (by (with_reducible repeat (first | refine blk_drewN ?_ _ | refine blk_drew ?_ | refine blk_alloc ?_ _)); refine blk_far ?_ NB7_11.out _; (with_reducible repeat (first | refine blk_drewN ?_ _ | refine blk_drew ?_ | refine blk_alloc ?_ _)); refine blk_far ?_ NB7_11.out _; (with_reducible repeat (first | refine blk_drewN ?_ _ | refine blk_drew ?_ | refine blk_alloc ?_ _)); refine blk_far ?_ NB7_11.out _; (with_reducible repeat (first | refine blk_drewN ?_ _ | refine blk_drew ?_ | refine blk_alloc ?_ _)); exact BK7.out) hb); replace BK8 := Aside0.mk (blk_below (g := gb8) (o := .cells #[.int .i64 a10_0, .int .i64 a10_1, .int .i64 a10_2] 28 (0, 0)) (by (with_reducible repeat (first | refine blk_drewN ?_ _ | refine blk_drew ?_ | refine blk_alloc ?_ _)); refine blk_far ?_ NB8_11.out _; (with_reducible repeat (first | refine blk_drewN ?_ _ | refine blk_drew ?_ | refine blk_alloc ?_ _)); refine blk_far ?_ NB8_11.out _; (with_reducible repeat (first | refine blk_drewN ?_ _ | refine blk_drew ?_ | refine blk_alloc ?_ _)); refine blk_far ?_ NB8_11.out _; (with_reducible repeat (first | refine blk_drewN ?_ _ | refine blk_drew ?_ | refine blk_alloc ?_ _)); exact BK8.out) hb); replace BK9 := Aside0.mk (blk_below (g := gb9) (o := .cells #[.slice (some ad394) t372.length co33] 26 (0, 0)) (by (with_reducible repeat (first | refine blk_drewN ?_ _ | refine blk_drew ?_ | refine blk_alloc ?_ _)); refine blk_far ?_ NB9_11.out _; (with_reducible repeat (first | refine blk_drewN ?_ _ | refine blk_drew ?_ | refine blk_alloc ?_ _)); refine blk_far ?_ NB9_11.out _; (with_reducible repeat (first | refine blk_drewN ?_ _ | refine blk_drew ?_ | refine blk_alloc ?_ _)); refine blk_far ?_ NB9_11.out _; (with_reducible repeat (first | refine blk_drewN ?_ _ | refine blk_drew ?_ | refine blk_alloc ?_ _)); exact BK9.out) hb); replace BK11 := Aside0.mk (blk_below (g := gb11) (o := .cells #[.int .i64 ((rd_T28 t372 x179_3).f0), .int .i64 ((rd_T28 t372 x179_3).f1), .int .i64 ((rd_T28 t372 x179_3).f2)] 28 (0, 0)) (by (with_reducible repeat (first | refine blk_drewN ?_ _ | refine blk_drew ?_ | refine blk_alloc ?_ _)); refine blk_put (cs := #[.int .i64 ((rd_T28 t372 x179_3).f0), .int .i64 ((rd_T28 t372 x179_3).f1), .int .i64 0]) ?_ 2 _ rfl; (with_reducible repeat (first | refine blk_drewN ?_ _ | refine blk_drew ?_ | refine blk_alloc ?_ _)); refine blk_put (cs := #[.int .i64 ((rd_T28 t372 x179_3).f0), .int .i64 0, .int .i64 0]) ?_ 1 _ rfl; (with_reducible repeat (first | refine blk_drewN ?_ _ | refine blk_drew ?_ | refine blk_alloc ?_ _)); refine blk_put (cs := #[.int .i64 0, .int .i64 0, .int .i64 0]) ?_ 0 _ rfl; (with_reducible repeat (first | refine blk_drewN ?_ _ | refine blk_drew ?_ | refine blk_alloc ?_ _)); exact BK11.out) hb); replace HB := kw HB hb; (try clear hb); (try clear hk)))
        go_ret
        exact ⟨eqR, bw HB⟩
       replace H := iteB H; rcases H with ⟨rfl, H⟩ | ⟨rfl, H⟩
       ·
        have H' := Aside0.mk H
        clear H
        have p394 : 0 ≤ (x179_3 : Int) := of_decide_eq_true (by first | (with_reducible assumption) | assumption)
        have q394 : x179_3 < (t372.length : Int) := of_decide_eq_true (by first | (with_reducible assumption) | assumption)
        obtain ⟨ad394, e394, hx394_0, hx394_1, hx394_2⟩ := at_T28 (Kd.R_reads' HO_177.out).2.2 x179_3 p394 q394
        cases e394
        replace p394 := eq_true p394
        replace q394 := eq_true q394
        go_wp2_with (first | ((with_reducible refine gate_dst (N := 38) rfl ?_); (try (refine gate_guard (by rfl) ?_; dsimp only)); refine boxK HB (N := 38) (cs := #[.int .i64 0, .int .i64 0, .int .i64 0]) (t := 28) (h := ?_); clear HB; intro gb11 hg w324 BK11 GW11 GE11 HB hb; replace HO_177 := Aside0.mk (Kd.R_below (Kd.R_elderB (ro HO_177) gb11 (Nat.le_of_eq hg.symm)) hb); replace HO_377000 := Aside0.mk (Kd.R_below (Kd.R_elderB (ro HO_377000) gb11 (Nat.le_of_eq hg.symm)) hb); obtain ⟨NB1_11, NB11_1, NB2_11, NB11_2, NB3_11, NB11_3, NB4_11, NB11_4, NB5_11, NB11_5, NB6_11, NB11_6, NB7_11, NB11_7, NB8_11, NB11_8⟩ := nv8 hg BK1 BK2 BK3 BK4 BK5 BK6 BK7 BK8; refine mv8 hb BK1 BK2 BK3 BK4 BK5 BK6 BK7 BK8 ?_; clear BK1 BK2 BK3 BK4 BK5 BK6 BK7 BK8; intro BK1 BK2 BK3 BK4 BK5 BK6 BK7 BK8; obtain ⟨NB9_11, NB11_9⟩ := nv1 hg BK9; replace BK9 := kb BK9 hb; clear hb hg; have hnb325 := up8 NB11_1 NB11_2 NB11_3 NB11_4 NB11_5 NB11_6 NB11_7 NB11_8; have hnb333 := up1 NB11_9; obtain ⟨hcz334_0, hcz334_1, hcz334_2, hfz334_0, hfz334_1, hfz334_2⟩ := kc3 BK11; have hnb335 := up8 NB1_2 NB1_3 NB1_4 NB1_5 NB1_6 NB1_7 NB1_8 NB1_9; obtain ⟨hcz343_0, hcz343_1, hfz343_0, hfz343_1⟩ := kc2 BK1) | ((with_reducible refine gate_callee (f := 9) rfl ?_); refine goesL_ (some 186) rfl rfl Try.func9 (by kernel_rfl) rfl #[.agg #[.int .i64 ((rd_T28 t372 x179_3).f0), .int .i64 ((rd_T28 t372 x179_3).f1), .int .i64 ((rd_T28 t372 x179_3).f2)], .agg #[.int .i64 a0_0, .int .i64 a0_1]] rfl argR ?_; (with_reducible refine (impl_DoesFit.calls ((rd_T28 t372 x179_3).f0) ((rd_T28 t372 x179_3).f1) ((rd_T28 t372 x179_3).f2) a0_0 a0_1 true true _ A321.out).mono ?_); rintro e w344 ⟨rfl, hb⟩; refine ⟨_, rfl, ?_⟩; replace HO_177 := Aside0.mk (Kd.R_below (by (with_reducible repeat (first | apply Kd.R_alloc | apply Kd.R_drewN | apply Kd.R_drew)); exact (Kd.R_mono (Kd.R_far (p := ⟨gb11, 2, none⟩) (Kd.R_far (p := ⟨gb11, 1, none⟩) (Kd.R_far (p := ⟨gb11, 0, none⟩) (Kd.R_mono HO_177.out (fun k_ hk => (⟨hk, hk.2⟩ : _ ∧ k_ ≠ gb11))) (fun _ hk => hk.2) (.int .i64 ((rd_T28 t372 x179_3).f0))) (fun _ hk => hk.2) (.int .i64 ((rd_T28 t372 x179_3).f1))) (fun _ hk => hk.2) (.int .i64 ((rd_T28 t372 x179_3).f2))) (fun _ h_ => h_.1))) hb); replace HO_377000 := Aside0.mk (Kd.R_below (by (with_reducible repeat (first | apply Kd.R_alloc | apply Kd.R_drewN | apply Kd.R_drew)); exact (Kd.R_mono (Kd.R_far (p := ⟨gb11, 2, none⟩) (Kd.R_far (p := ⟨gb11, 1, none⟩) (Kd.R_far (p := ⟨gb11, 0, none⟩) (Kd.R_mono HO_377000.out (fun k_ hk => (⟨hk, hk.2⟩ : _ ∧ k_ ≠ gb11))) (fun _ hk => hk.2) (.int .i64 ((rd_T28 t372 x179_3).f0))) (fun _ hk => hk.2) (.int .i64 ((rd_T28 t372 x179_3).f1))) (fun _ hk => hk.2) (.int .i64 ((rd_T28 t372 x179_3).f2))) (fun _ h_ => h_.1))) hb); replace BK1 := Aside0.mk (blk_below (g := gb1) (o := .cells #[.int .i64 a0_0, .int .i64 a0_1] 23 (0, 0)) (by (with_reducible repeat (first | refine blk_drewN ?_ _ | refine blk_drew ?_ | refine blk_alloc ?_ _)); refine blk_far ?_ NB1_11.out _; (with_reducible repeat (first | refine blk_drewN ?_ _ | refine blk_drew ?_ | refine blk_alloc ?_ _)); refine blk_far ?_ NB1_11.out _; (with_reducible repeat (first | refine blk_drewN ?_ _ | refine blk_drew ?_ | refine blk_alloc ?_ _)); refine blk_far ?_ NB1_11.out _; (with_reducible repeat (first | refine blk_drewN ?_ _ | refine blk_drew ?_ | refine blk_alloc ?_ _)); exact BK1.out) hb); replace BK2 := Aside0.mk (blk_below (g := gb2) (o := .cells #[.slice A3_0 l3_0.length c3_0] 26 (0, 0)) (by (with_reducible repeat (first | refine blk_drewN ?_ _ | refine blk_drew ?_ | refine blk_alloc ?_ _)); refine blk_far ?_ NB2_11.out _; (with_reducible repeat (first | refine blk_drewN ?_ _ | refine blk_drew ?_ | refine blk_alloc ?_ _)); refine blk_far ?_ NB2_11.out _; (with_reducible repeat (first | refine blk_drewN ?_ _ | refine blk_drew ?_ | refine blk_alloc ?_ _)); refine blk_far ?_ NB2_11.out _; (with_reducible repeat (first | refine blk_drewN ?_ _ | refine blk_drew ?_ | refine blk_alloc ?_ _)); exact BK2.out) hb); replace BK3 := Aside0.mk (blk_below (g := gb3) (o := .cells #[.slice A4_0 l4_0.length c4_0] 26 (0, 0)) (by (with_reducible repeat (first | refine blk_drewN ?_ _ | refine blk_drew ?_ | refine blk_alloc ?_ _)); refine blk_far ?_ NB3_11.out _; (with_reducible repeat (first | refine blk_drewN ?_ _ | refine blk_drew ?_ | refine blk_alloc ?_ _)); refine blk_far ?_ NB3_11.out _; (with_reducible repeat (first | refine blk_drewN ?_ _ | refine blk_drew ?_ | refine blk_alloc ?_ _)); refine blk_far ?_ NB3_11.out _; (with_reducible repeat (first | refine blk_drewN ?_ _ | refine blk_drew ?_ | refine blk_alloc ?_ _)); exact BK3.out) hb); replace BK4 := Aside0.mk (blk_below (g := gb4) (o := .cells #[.int .i64 a5_0, .int .i64 a5_1, .int .i64 a5_2] 28 (0, 0)) (by (with_reducible repeat (first | refine blk_drewN ?_ _ | refine blk_drew ?_ | refine blk_alloc ?_ _)); refine blk_far ?_ NB4_11.out _; (with_reducible repeat (first | refine blk_drewN ?_ _ | refine blk_drew ?_ | refine blk_alloc ?_ _)); refine blk_far ?_ NB4_11.out _; (with_reducible repeat (first | refine blk_drewN ?_ _ | refine blk_drew ?_ | refine blk_alloc ?_ _)); refine blk_far ?_ NB4_11.out _; (with_reducible repeat (first | refine blk_drewN ?_ _ | refine blk_drew ?_ | refine blk_alloc ?_ _)); exact BK4.out) hb); replace BK5 := Aside0.mk (blk_below (g := gb5) (o := .cells #[.slice A6_0 l6_0.length c6_0] 26 (0, 0)) (by (with_reducible repeat (first | refine blk_drewN ?_ _ | refine blk_drew ?_ | refine blk_alloc ?_ _)); refine blk_far ?_ NB5_11.out _; (with_reducible repeat (first | refine blk_drewN ?_ _ | refine blk_drew ?_ | refine blk_alloc ?_ _)); refine blk_far ?_ NB5_11.out _; (with_reducible repeat (first | refine blk_drewN ?_ _ | refine blk_drew ?_ | refine blk_alloc ?_ _)); refine blk_far ?_ NB5_11.out _; (with_reducible repeat (first | refine blk_drewN ?_ _ | refine blk_drew ?_ | refine blk_alloc ?_ _)); exact BK5.out) hb); replace BK6 := Aside0.mk (blk_below (g := gb6) (o := .cells #[.int .i64 a8_0, .int .i64 a8_1, .int .i64 a8_2] 28 (0, 0)) (by (with_reducible repeat (first | refine blk_drewN ?_ _ | refine blk_drew ?_ | refine blk_alloc ?_ _)); refine blk_far ?_ NB6_11.out _; (with_reducible repeat (first | refine blk_drewN ?_ _ | refine blk_drew ?_ | refine blk_alloc ?_ _)); refine blk_far ?_ NB6_11.out _; (with_reducible repeat (first | refine blk_drewN ?_ _ | refine blk_drew ?_ | refine blk_alloc ?_ _)); refine blk_far ?_ NB6_11.out _; (with_reducible repeat (first | refine blk_drewN ?_ _ | refine blk_drew ?_ | refine blk_alloc ?_ _)); exact BK6.out) hb); replace BK7 := Aside0.mk (blk_below (g := gb7) (o := .cells #[.int .i64 a9_0, .int .i64 a9_1] 23 (0, 0)) (by (with_reducible repeat (first | refine blk_drewN ?_ _ | refine blk_drew ?_ | refine blk_alloc ?_ _)); refine blk_far ?_ NB7_11.out _; (with_reducible repeat (first | refine blk_drewN ?_ _ | refine blk_drew ?_ | refine blk_alloc ?_ _)); refine blk_far ?_ NB7_11.out _; (with_reducible repeat (first | refine blk_drewN ?_ _ | refine blk_drew ?_ | refine blk_alloc ?_ _)); refine blk_far ?_ NB7_11.out _; (with_reducible repeat (first | refine blk_drewN ?_ _ | refine blk_drew ?_ | refine blk_alloc ?_ _)); exact BK7.out) hb); replace BK8 := Aside0.mk (blk_below (g := gb8) (o := .cells #[.int .i64 a10_0, .int .i64 a10_1, .int .i64 a10_2] 28 (0, 0)) (by (with_reducible repeat (first | refine blk_drewN ?_ _ | refine blk_drew ?_ | refine blk_alloc ?_ _)); refine blk_far ?_ NB8_11.out _; (with_reducible repeat (first | refine blk_drewN ?_ _ | refine blk_drew ?_ | refine blk_alloc ?_ _)); refine blk_far ?_ NB8_11.out _; (with_reducible repeat (first | refine blk_drewN ?_ _ | refine blk_drew ?_ | refine blk_alloc ?_ _)); refine blk_far ?_ NB8_11.out _; (with_reducible repeat (first | refine blk_drewN ?_ _ | refine blk_drew ?_ | refine blk_alloc ?_ _)); exact BK8.out) hb); replace BK9 := Aside0.mk (blk_below (g := gb9) (o := .cells #[.slice (some ad394) t372.length co33] 26 (0, 0)) (by (with_reducible repeat (first | refine blk_drewN ?_ _ | refine blk_drew ?_ | refine blk_alloc ?_ _)); refine blk_far ?_ NB9_11.out _; (with_reducible repeat (first | refine blk_drewN ?_ _ | refine blk_drew ?_ | refine blk_alloc ?_ _)); refine blk_far ?_ NB9_11.out _; (with_reducible repeat (first | refine blk_drewN ?_ _ | refine blk_drew ?_ | refine blk_alloc ?_ _)); refine blk_far ?_ NB9_11.out _; (with_reducible repeat (first | refine blk_drewN ?_ _ | refine blk_drew ?_ | refine blk_alloc ?_ _)); exact BK9.out) hb); replace BK11 := Aside0.mk (blk_below (g := gb11) (o := .cells #[.int .i64 ((rd_T28 t372 x179_3).f0), .int .i64 ((rd_T28 t372 x179_3).f1), .int .i64 ((rd_T28 t372 x179_3).f2)] 28 (0, 0)) (by (with_reducible repeat (first | refine blk_drewN ?_ _ | refine blk_drew ?_ | refine blk_alloc ?_ _)); refine blk_put (cs := #[.int .i64 ((rd_T28 t372 x179_3).f0), .int .i64 ((rd_T28 t372 x179_3).f1), .int .i64 0]) ?_ 2 _ rfl; (with_reducible repeat (first | refine blk_drewN ?_ _ | refine blk_drew ?_ | refine blk_alloc ?_ _)); refine blk_put (cs := #[.int .i64 ((rd_T28 t372 x179_3).f0), .int .i64 0, .int .i64 0]) ?_ 1 _ rfl; (with_reducible repeat (first | refine blk_drewN ?_ _ | refine blk_drew ?_ | refine blk_alloc ?_ _)); refine blk_put (cs := #[.int .i64 0, .int .i64 0, .int .i64 0]) ?_ 0 _ rfl; (with_reducible repeat (first | refine blk_drewN ?_ _ | refine blk_drew ?_ | refine blk_alloc ?_ _)); exact BK11.out) hb); replace HB := kw HB hb; (try clear hb); (try clear hk)))
        go_roundg k3
        case measure => have := HJ13.out; have := HJ85.out; have := HK3.out; omega
        case rel => exact ⟨(wrap64 (x179_3 + 1)), (by first | rfl | (simp; done) | (simp [*]; done)), H', ⟨by have := HJ13.out; have := HJ85.out; have := HK3.out; omega⟩, ⟨by (with_reducible repeat (first | apply Kd.R_alloc | apply Kd.R_drewN | apply Kd.R_drew)); exact Kd.R_mono HO_177.out (fun _ hk => ⟨hk.1.1, ⟨hk.1.2.1, hk.1.2.2⟩⟩)⟩, ⟨by (with_reducible repeat (first | apply Kd.R_alloc | apply Kd.R_drewN | apply Kd.R_drew)); exact Kd.R_mono HO_377000.out (fun _ hk => ⟨hk.1.1, ⟨hk.1.2.1, hk.1.2.2⟩⟩)⟩, ⟨bk BK1⟩, ⟨bk BK2⟩, ⟨bk BK3⟩, ⟨bk BK4⟩, ⟨bk BK5⟩, ⟨bk BK6⟩, ⟨bk BK7⟩, ⟨bk BK8⟩, ⟨bk BK9⟩, ⟨bw HB⟩⟩
       obtain rfl := Option.some.inj H
       have p394 : 0 ≤ (x179_3 : Int) := of_decide_eq_true (by first | (with_reducible assumption) | assumption)
       have q394 : x179_3 < (t372.length : Int) := of_decide_eq_true (by first | (with_reducible assumption) | assumption)
       obtain ⟨ad394, e394, hx394_0, hx394_1, hx394_2⟩ := at_T28 (Kd.R_reads' HO_177.out).2.2 x179_3 p394 q394
       cases e394
       replace p394 := eq_true p394
       replace q394 := eq_true q394
       go_wp2_with (first | ((with_reducible refine gate_dst (N := 38) rfl ?_); (try (refine gate_guard (by rfl) ?_; dsimp only)); refine boxK HB (N := 38) (cs := #[.int .i64 0, .int .i64 0, .int .i64 0]) (t := 28) (h := ?_); clear HB; intro gb11 hg w345 BK11 GW11 GE11 HB hb; replace HO_177 := Aside0.mk (Kd.R_below (Kd.R_elderB (ro HO_177) gb11 (Nat.le_of_eq hg.symm)) hb); replace HO_377000 := Aside0.mk (Kd.R_below (Kd.R_elderB (ro HO_377000) gb11 (Nat.le_of_eq hg.symm)) hb); obtain ⟨NB1_11, NB11_1, NB2_11, NB11_2, NB3_11, NB11_3, NB4_11, NB11_4, NB5_11, NB11_5, NB6_11, NB11_6, NB7_11, NB11_7, NB8_11, NB11_8⟩ := nv8 hg BK1 BK2 BK3 BK4 BK5 BK6 BK7 BK8; refine mv8 hb BK1 BK2 BK3 BK4 BK5 BK6 BK7 BK8 ?_; clear BK1 BK2 BK3 BK4 BK5 BK6 BK7 BK8; intro BK1 BK2 BK3 BK4 BK5 BK6 BK7 BK8; obtain ⟨NB9_11, NB11_9⟩ := nv1 hg BK9; replace BK9 := kb BK9 hb; clear hb hg; have hnb346 := up8 NB11_1 NB11_2 NB11_3 NB11_4 NB11_5 NB11_6 NB11_7 NB11_8; have hnb354 := up1 NB11_9; obtain ⟨hcz355_0, hcz355_1, hcz355_2, hfz355_0, hfz355_1, hfz355_2⟩ := kc3 BK11; have hnb356 := up8 NB1_2 NB1_3 NB1_4 NB1_5 NB1_6 NB1_7 NB1_8 NB1_9; obtain ⟨hcz364_0, hcz364_1, hfz364_0, hfz364_1⟩ := kc2 BK1) | ((with_reducible refine gate_callee (f := 9) rfl ?_); refine goesL_ (some 186) rfl rfl Try.func9 (by kernel_rfl) rfl #[.agg #[.int .i64 ((rd_T28 t372 x179_3).f0), .int .i64 ((rd_T28 t372 x179_3).f1), .int .i64 ((rd_T28 t372 x179_3).f2)], .agg #[.int .i64 a0_0, .int .i64 a0_1]] rfl argR ?_; (with_reducible refine (impl_DoesFit.calls ((rd_T28 t372 x179_3).f0) ((rd_T28 t372 x179_3).f1) ((rd_T28 t372 x179_3).f2) a0_0 a0_1 false true _ A321.out).mono ?_); rintro e w365 ⟨rfl, hb⟩; refine ⟨_, rfl, ?_⟩; replace HO_177 := Aside0.mk (Kd.R_below (by (with_reducible repeat (first | apply Kd.R_alloc | apply Kd.R_drewN | apply Kd.R_drew)); exact (Kd.R_mono (Kd.R_far (p := ⟨gb11, 2, none⟩) (Kd.R_far (p := ⟨gb11, 1, none⟩) (Kd.R_far (p := ⟨gb11, 0, none⟩) (Kd.R_mono HO_177.out (fun k_ hk => (⟨hk, hk.2⟩ : _ ∧ k_ ≠ gb11))) (fun _ hk => hk.2) (.int .i64 ((rd_T28 t372 x179_3).f0))) (fun _ hk => hk.2) (.int .i64 ((rd_T28 t372 x179_3).f1))) (fun _ hk => hk.2) (.int .i64 ((rd_T28 t372 x179_3).f2))) (fun _ h_ => h_.1))) hb); replace HO_377000 := Aside0.mk (Kd.R_below (by (with_reducible repeat (first | apply Kd.R_alloc | apply Kd.R_drewN | apply Kd.R_drew)); exact (Kd.R_mono (Kd.R_far (p := ⟨gb11, 2, none⟩) (Kd.R_far (p := ⟨gb11, 1, none⟩) (Kd.R_far (p := ⟨gb11, 0, none⟩) (Kd.R_mono HO_377000.out (fun k_ hk => (⟨hk, hk.2⟩ : _ ∧ k_ ≠ gb11))) (fun _ hk => hk.2) (.int .i64 ((rd_T28 t372 x179_3).f0))) (fun _ hk => hk.2) (.int .i64 ((rd_T28 t372 x179_3).f1))) (fun _ hk => hk.2) (.int .i64 ((rd_T28 t372 x179_3).f2))) (fun _ h_ => h_.1))) hb); replace BK1 := Aside0.mk (blk_below (g := gb1) (o := .cells #[.int .i64 a0_0, .int .i64 a0_1] 23 (0, 0)) (by (with_reducible repeat (first | refine blk_drewN ?_ _ | refine blk_drew ?_ | refine blk_alloc ?_ _)); refine blk_far ?_ NB1_11.out _; (with_reducible repeat (first | refine blk_drewN ?_ _ | refine blk_drew ?_ | refine blk_alloc ?_ _)); refine blk_far ?_ NB1_11.out _; (with_reducible repeat (first | refine blk_drewN ?_ _ | refine blk_drew ?_ | refine blk_alloc ?_ _)); refine blk_far ?_ NB1_11.out _; (with_reducible repeat (first | refine blk_drewN ?_ _ | refine blk_drew ?_ | refine blk_alloc ?_ _)); exact BK1.out) hb); replace BK2 := Aside0.mk (blk_below (g := gb2) (o := .cells #[.slice A3_0 l3_0.length c3_0] 26 (0, 0)) (by (with_reducible repeat (first | refine blk_drewN ?_ _ | refine blk_drew ?_ | refine blk_alloc ?_ _)); refine blk_far ?_ NB2_11.out _; (with_reducible repeat (first | refine blk_drewN ?_ _ | refine blk_drew ?_ | refine blk_alloc ?_ _)); refine blk_far ?_ NB2_11.out _; (with_reducible repeat (first | refine blk_drewN ?_ _ | refine blk_drew ?_ | refine blk_alloc ?_ _)); refine blk_far ?_ NB2_11.out _; (with_reducible repeat (first | refine blk_drewN ?_ _ | refine blk_drew ?_ | refine blk_alloc ?_ _)); exact BK2.out) hb); replace BK3 := Aside0.mk (blk_below (g := gb3) (o := .cells #[.slice A4_0 l4_0.length c4_0] 26 (0, 0)) (by (with_reducible repeat (first | refine blk_drewN ?_ _ | refine blk_drew ?_ | refine blk_alloc ?_ _)); refine blk_far ?_ NB3_11.out _; (with_reducible repeat (first | refine blk_drewN ?_ _ | refine blk_drew ?_ | refine blk_alloc ?_ _)); refine blk_far ?_ NB3_11.out _; (with_reducible repeat (first | refine blk_drewN ?_ _ | refine blk_drew ?_ | refine blk_alloc ?_ _)); refine blk_far ?_ NB3_11.out _; (with_reducible repeat (first | refine blk_drewN ?_ _ | refine blk_drew ?_ | refine blk_alloc ?_ _)); exact BK3.out) hb); replace BK4 := Aside0.mk (blk_below (g := gb4) (o := .cells #[.int .i64 a5_0, .int .i64 a5_1, .int .i64 a5_2] 28 (0, 0)) (by (with_reducible repeat (first | refine blk_drewN ?_ _ | refine blk_drew ?_ | refine blk_alloc ?_ _)); refine blk_far ?_ NB4_11.out _; (with_reducible repeat (first | refine blk_drewN ?_ _ | refine blk_drew ?_ | refine blk_alloc ?_ _)); refine blk_far ?_ NB4_11.out _; (with_reducible repeat (first | refine blk_drewN ?_ _ | refine blk_drew ?_ | refine blk_alloc ?_ _)); refine blk_far ?_ NB4_11.out _; (with_reducible repeat (first | refine blk_drewN ?_ _ | refine blk_drew ?_ | refine blk_alloc ?_ _)); exact BK4.out) hb); replace BK5 := Aside0.mk (blk_below (g := gb5) (o := .cells #[.slice A6_0 l6_0.length c6_0] 26 (0, 0)) (by (with_reducible repeat (first | refine blk_drewN ?_ _ | refine blk_drew ?_ | refine blk_alloc ?_ _)); refine blk_far ?_ NB5_11.out _; (with_reducible repeat (first | refine blk_drewN ?_ _ | refine blk_drew ?_ | refine blk_alloc ?_ _)); refine blk_far ?_ NB5_11.out _; (with_reducible repeat (first | refine blk_drewN ?_ _ | refine blk_drew ?_ | refine blk_alloc ?_ _)); refine blk_far ?_ NB5_11.out _; (with_reducible repeat (first | refine blk_drewN ?_ _ | refine blk_drew ?_ | refine blk_alloc ?_ _)); exact BK5.out) hb); replace BK6 := Aside0.mk (blk_below (g := gb6) (o := .cells #[.int .i64 a8_0, .int .i64 a8_1, .int .i64 a8_2] 28 (0, 0)) (by (with_reducible repeat (first | refine blk_drewN ?_ _ | refine blk_drew ?_ | refine blk_alloc ?_ _)); refine blk_far ?_ NB6_11.out _; (with_reducible repeat (first | refine blk_drewN ?_ _ | refine blk_drew ?_ | refine blk_alloc ?_ _)); refine blk_far ?_ NB6_11.out _; (with_reducible repeat (first | refine blk_drewN ?_ _ | refine blk_drew ?_ | refine blk_alloc ?_ _)); refine blk_far ?_ NB6_11.out _; (with_reducible repeat (first | refine blk_drewN ?_ _ | refine blk_drew ?_ | refine blk_alloc ?_ _)); exact BK6.out) hb); replace BK7 := Aside0.mk (blk_below (g := gb7) (o := .cells #[.int .i64 a9_0, .int .i64 a9_1] 23 (0, 0)) (by (with_reducible repeat (first | refine blk_drewN ?_ _ | refine blk_drew ?_ | refine blk_alloc ?_ _)); refine blk_far ?_ NB7_11.out _; (with_reducible repeat (first | refine blk_drewN ?_ _ | refine blk_drew ?_ | refine blk_alloc ?_ _)); refine blk_far ?_ NB7_11.out _; (with_reducible repeat (first | refine blk_drewN ?_ _ | refine blk_drew ?_ | refine blk_alloc ?_ _)); refine blk_far ?_ NB7_11.out _; (with_reducible repeat (first | refine blk_drewN ?_ _ | refine blk_drew ?_ | refine blk_alloc ?_ _)); exact BK7.out) hb); replace BK8 := Aside0.mk (blk_below (g := gb8) (o := .cells #[.int .i64 a10_0, .int .i64 a10_1, .int .i64 a10_2] 28 (0, 0)) (by (with_reducible repeat (first | refine blk_drewN ?_ _ | refine blk_drew ?_ | refine blk_alloc ?_ _)); refine blk_far ?_ NB8_11.out _; (with_reducible repeat (first | refine blk_drewN ?_ _ | refine blk_drew ?_ | refine blk_alloc ?_ _)); refine blk_far ?_ NB8_11.out _; (with_reducible repeat (first | refine blk_drewN ?_ _ | refine blk_drew ?_ | refine blk_alloc ?_ _)); refine blk_far ?_ NB8_11.out _; (with_reducible repeat (first | refine blk_drewN ?_ _ | refine blk_drew ?_ | refine blk_alloc ?_ _)); exact BK8.out) hb); replace BK9 := Aside0.mk (blk_below (g := gb9) (o := .cells #[.slice (some ad394) t372.length co33] 26 (0, 0)) (by (with_reducible repeat (first | refine blk_drewN ?_ _ | refine blk_drew ?_ | refine blk_alloc ?_ _)); refine blk_far ?_ NB9_11.out _; (with_reducible repeat (first | refine blk_drewN ?_ _ | refine blk_drew ?_ | refine blk_alloc ?_ _)); refine blk_far ?_ NB9_11.out _; (with_reducible repeat (first | refine blk_drewN ?_ _ | refine blk_drew ?_ | refine blk_alloc ?_ _)); refine blk_far ?_ NB9_11.out _; (with_reducible repeat (first | refine blk_drewN ?_ _ | refine blk_drew ?_ | refine blk_alloc ?_ _)); exact BK9.out) hb); replace BK11 := Aside0.mk (blk_below (g := gb11) (o := .cells #[.int .i64 ((rd_T28 t372 x179_3).f0), .int .i64 ((rd_T28 t372 x179_3).f1), .int .i64 ((rd_T28 t372 x179_3).f2)] 28 (0, 0)) (by (with_reducible repeat (first | refine blk_drewN ?_ _ | refine blk_drew ?_ | refine blk_alloc ?_ _)); refine blk_put (cs := #[.int .i64 ((rd_T28 t372 x179_3).f0), .int .i64 ((rd_T28 t372 x179_3).f1), .int .i64 0]) ?_ 2 _ rfl; (with_reducible repeat (first | refine blk_drewN ?_ _ | refine blk_drew ?_ | refine blk_alloc ?_ _)); refine blk_put (cs := #[.int .i64 ((rd_T28 t372 x179_3).f0), .int .i64 0, .int .i64 0]) ?_ 1 _ rfl; (with_reducible repeat (first | refine blk_drewN ?_ _ | refine blk_drew ?_ | refine blk_alloc ?_ _)); refine blk_put (cs := #[.int .i64 0, .int .i64 0, .int .i64 0]) ?_ 0 _ rfl; (with_reducible repeat (first | refine blk_drewN ?_ _ | refine blk_drew ?_ | refine blk_alloc ?_ _)); exact BK11.out) hb); replace HB := kw HB hb; (try clear hb); (try clear hk)))
       go_ret
       exact ⟨eqR, bw HB⟩
  case rest =>
   clear HC79
   obtain ⟨kq, HA, HJ78, BK2, BK3, BK4, BK5, BK6, BK7, BK8, HB⟩ := hcut
   exact laws_FnSnailsHiddenOfAll.r2 k a0_0 a0_1 a1 a2 A3_0 c3_0 l3_0 A4_0 c4_0 l4_0 a5_0 a5_1 a5_2 A6_0 c6_0 l6_0 a7 a8_0 a8_1 a8_2 a9_0 a9_1 a10_0 a10_1 a10_2 r w HR3_0 HC3_0 HR4_0 HC4_0 HR6_0 HC6_0 t375 t380 gb1 gb2 gb3 NB2_3 gb4 NB2_4 NB3_4 gb5 NB2_5 NB3_5 NB4_5 gb6 NB2_6 NB3_6 NB4_6 NB5_6 gb7 NB2_7 NB3_7 NB4_7 NB5_7 NB6_7 gb8 NB2_8 NB3_8 NB4_8 NB5_8 NB6_8 NB7_8 gb9 gb10 u69 u70 u71 u72 u73 u74 u75 u76 u77 u78 u79 u80 u81 u82 u83 u84 u85 u86 u87 u88 u89 u90 u91 u92 kj13 HJ13 _ rfl _ (by assumption) wc u22 u27 u28 u29 u30 u31 u32 u33 u34 u35 u36 u38 u39 u40 u93 u94 u95 u96 u97 u98 u99 u100 u101 u102 u103 u104 u105 u106 u107 u108 u109 u110 u111 u112 u113 u114 u115 u116 u117 u118 u119 u120 u121 u122 u123 u124 u125 u126 u127 u128 u129 u130 u131 u132 u133 u134 u135 u136 u137 u138 u139 u140 u141 u142 u143 u144 u145 u146 u147 u148 u149 u150 u151 u152 u153 u154 u155 u156 u157 u158 u159 u160 u161 u162 u163 u164 u165 u166 u167 u168 u169 u170 u171 u172 u173 u174 u175 u176 u177 u178 u179 u180 u181 u182 u183 u184 u185 u186 u187 u188 u189 u190 u191 u192 u193 u194 u195 kq HA HJ78 BK2 BK3 BK4 BK5 BK6 BK7 BK8 HB

end Go.Proofs.Ytlpjooijkeadbaa.PH
