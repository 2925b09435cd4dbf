-- Written by a program of our own (wip/tools/xprint.py) for this claim; Lean checks it.
import Derived.Test.YtlpjooijkeadbaaPHx0
import Derived.Test.YtlpjooijkeadbaaPHx3
import Derived.Test.YtlpjooijkeadbaaPHx4
namespace Go.Proofs.Ytlpjooijkeadbaa.PH
open Go.RowKit Go.Proofs.YtlpjooijkeadbaaK Go.Proofs.YtlpjooijkeadbaaW.PrintWords Go.Proofs.YtlpjooijkeadbaaW.PrintLast Go.Proofs.YtlpjooijkeadbaaW.PrintMore
attribute [local go_sem] max2_int min2_int max_two min_two max_three min_three max_four min_four   -- for this text's walks alone
set_option linter.unusedVariables false
set_option linter.unusedSimpArgs false

/-! ### impl_EveningHeight: function 10 -/
def impl_EveningHeight.f (a0_0 : Int) (a0_1 : Int) (a1 : Int) (a2 : Int) : Option (Int × Bool) := (impl_isWalled.f a0_0 a0_1 a1).bind fun t193 => (if t193 = true then ((impl_isWall.f a2).bind fun t194 => (if t194 = true then ((impl_eveningHeight.f a0_0 a0_1 a1 a2).bind fun t195 => (some (t195, true))) else (some (0, false)))) else (some (0, false)))
set_option maxHeartbeats 8000000 in
set_option maxRecDepth 100000 in
theorem impl_EveningHeight.calls (a0_0 : Int) (a0_1 : Int) (a1 : Int) (a2 : Int) (r1 : Int) (r2 : Bool) (w : World) (h : impl_EveningHeight.f a0_0 a0_1 a1 a2 = some (r1, r2)) :
    Calls Try.prog 10 #[.agg #[.int .i64 a0_0, .int .i64 a0_1], .int .i64 a1, .int .i64 a2] w fun e w' => e = .returned (.tuple #[.int .i64 r1, .bool r2]) ∧ Below w.heap.size w w' := by
 have hu23 := Try.underlying23
 have HB := Aside0.mk (Below.refl w.heap.size w)
 have H : ((impl_isWalled.f a0_0 a0_1 a1).bind fun t193 => (if t193 = true then ((impl_isWall.f a2).bind fun t194 => (if t194 = true then ((impl_eveningHeight.f a0_0 a0_1 a1 a2).bind fun t195 => (some (t195, true))) else (some (0, false)))) else (some (0, false)))) = some (r1, r2) := h
 clear h
 replace H := bindS H; obtain ⟨t193, A4, H⟩ := H
 replace H := iteB H; rcases H with ⟨rfl, H⟩ | ⟨rfl, H⟩
 rotate_left
 ·
  simp only [Option.some.injEq, Prod.mk.injEq] at H
  obtain ⟨rfl, rfl⟩ := H
  go_enter Try.func10, Try.ntmps10
  go_wp2_with (first | ((with_reducible refine gate_dst (N := 3) rfl ?_); refine boxK HB (N := 3) (cs := #[.int .i64 a0_0, .int .i64 a0_1]) (t := 23) (h := ?_); clear HB; intro gb1 hg w17 BK1 GW1 GE1 HB hb; clear hb hg; obtain ⟨hcz18_0, hcz18_1, hfz18_0, hfz18_1⟩ := kc2 BK1) | ((with_reducible refine gate_callee (f := 39) rfl ?_); refine goK (some 10) Try.func39 #[.agg #[.int .i64 a0_0, .int .i64 a0_1], .int .i64 a1] ?_; (with_reducible refine (impl_isWalled.calls a0_0 a0_1 a1 false _ A4.out).mono ?_); rintro e w19 ⟨rfl, hb⟩; refine ⟨_, rfl, ?_⟩; replace BK1 := kb BK1 hb; replace HB := kw HB hb; (try clear hb)))
  go_ret2
  exact ⟨eqR, bw HB⟩
 replace H := bindS H; obtain ⟨t194, A6, H⟩ := H
 replace H := iteB H; rcases H with ⟨rfl, H⟩ | ⟨rfl, H⟩
 ·
  replace H := bindS H; obtain ⟨t195, A8, H⟩ := H
  simp only [Option.some.injEq, Prod.mk.injEq] at H
  obtain ⟨rfl, rfl⟩ := H
  go_enter Try.func10, Try.ntmps10
  go_wp2_with (first | ((with_reducible refine gate_dst (N := 3) rfl ?_); refine boxK HB (N := 3) (cs := #[.int .i64 a0_0, .int .i64 a0_1]) (t := 23) (h := ?_); clear HB; intro gb1 hg w9 BK1 GW1 GE1 HB hb; clear hb hg; obtain ⟨hcz10_0, hcz10_1, hfz10_0, hfz10_1⟩ := kc2 BK1) | ((with_reducible refine gate_callee (f := 39) rfl ?_); refine goK (some 10) Try.func39 #[.agg #[.int .i64 a0_0, .int .i64 a0_1], .int .i64 a1] ?_; (with_reducible refine (impl_isWalled.calls a0_0 a0_1 a1 true _ A4.out).mono ?_); rintro e w11 ⟨rfl, hb⟩; refine ⟨_, rfl, ?_⟩; replace BK1 := kb BK1 hb; replace HB := kw HB hb; (try clear hb)) | (go_at_call 42; (with_reducible refine (impl_isWall.calls a2 true _ A6.out).mono ?_); rintro e w' ⟨rfl, ⟨nd, rfl⟩⟩; obtain ⟨hcz12_0, hcz12_1, hfz12_0, hfz12_1⟩ := kc2 BK1) | ((with_reducible refine gate_callee (f := 43) rfl ?_); refine goK (some 20) Try.func43 #[.agg #[.int .i64 a0_0, .int .i64 a0_1], .int .i64 a1, .int .i64 a2] ?_; (with_reducible refine (impl_eveningHeight.calls a0_0 a0_1 a1 a2 t195 _ A8.out).mono ?_); rintro e w13 ⟨rfl, hb⟩; refine ⟨_, rfl, ?_⟩; replace BK1 := kb BK1 hb; replace HB := kw HB hb; (try clear hb)))
  go_ret2
  exact ⟨eqR, bw HB⟩
 simp only [Option.some.injEq, Prod.mk.injEq] at H
 obtain ⟨rfl, rfl⟩ := H
 go_enter Try.func10, Try.ntmps10
 go_wp2_with (first | ((with_reducible refine gate_dst (N := 3) rfl ?_); refine boxK HB (N := 3) (cs := #[.int .i64 a0_0, .int .i64 a0_1]) (t := 23) (h := ?_); clear HB; intro gb1 hg w14 BK1 GW1 GE1 HB hb; clear hb hg; obtain ⟨hcz15_0, hcz15_1, hfz15_0, hfz15_1⟩ := kc2 BK1) | ((with_reducible refine gate_callee (f := 39) rfl ?_); refine goK (some 10) Try.func39 #[.agg #[.int .i64 a0_0, .int .i64 a0_1], .int .i64 a1] ?_; (with_reducible refine (impl_isWalled.calls a0_0 a0_1 a1 true _ A4.out).mono ?_); rintro e w16 ⟨rfl, hb⟩; refine ⟨_, rfl, ?_⟩; replace BK1 := kb BK1 hb; replace HB := kw HB hb; (try clear hb)) | (go_at_call 42; (with_reducible refine (impl_isWall.calls a2 false _ A6.out).mono ?_); rintro e w' ⟨rfl, ⟨nd, rfl⟩⟩))
 go_ret2
 exact ⟨eqR, bw HB⟩

-- NOT PRINTED: function 65 (impl_Clue_65)

-- NOT PRINTED: function 44 (impl_Clue_44)

/-! ### impl_IsPuzzle_1: function 45 -/
def impl_IsPuzzle_1.f (a0_0 : Int) (a0_1 : Int) (a0_2 : Int) : Option (Bool) := (impl_IsClue.f a0_0 a0_1 a0_2).bind fun t197 => (some (!t197))
set_option maxHeartbeats 8000000 in
set_option maxRecDepth 100000 in
theorem impl_IsPuzzle_1.calls (a0_0 : Int) (a0_1 : Int) (a0_2 : Int) (r : Bool) (w : World) (h : impl_IsPuzzle_1.f a0_0 a0_1 a0_2 = some r) :
    Calls Try.prog 45 #[.agg #[.int .i64 a0_0, .int .i64 a0_1, .int .i64 a0_2]] w fun e w' => e = .returned (.bool r) ∧ Below w.heap.size w w' := by
 have hu28 := Try.underlying28
 have HB := Aside0.mk (Below.refl w.heap.size w)
 have H : ((impl_IsClue.f a0_0 a0_1 a0_2).bind fun t197 => (some (!t197))) = some r := h
 clear h
 replace H := bindS H; obtain ⟨t197, A2, H⟩ := H
 obtain rfl := Option.some.inj H
 go_enter Try.func45, Try.ntmps45
 go_wp2_with (first | ((with_reducible refine gate_dst (N := 1) rfl ?_); refine boxK HB (N := 1) (cs := #[.int .i64 a0_0, .int .i64 a0_1, .int .i64 a0_2]) (t := 28) (h := ?_); clear HB; intro gb1 hg w3 BK1 GW1 GE1 HB hb; clear hb hg; obtain ⟨hcz4_0, hcz4_1, hcz4_2, hfz4_0, hfz4_1, hfz4_2⟩ := kc3 BK1) | ((with_reducible refine gate_callee (f := 23) rfl ?_); refine goK (some 4) Try.func23 #[.agg #[.int .i64 a0_0, .int .i64 a0_1, .int .i64 a0_2]] ?_; (with_reducible refine (impl_IsClue.calls a0_0 a0_1 a0_2 t197 _ A2.out).mono ?_); rintro e w5 ⟨rfl, hb⟩; refine ⟨_, rfl, ?_⟩; replace BK1 := kb BK1 hb; replace HB := kw HB hb; (try clear hb)))
 go_ret
 exact ⟨eqR, bw HB⟩

/-! ### slices_IndexFunc_at_impl_IsPuzzle_1: function 65 -/
def slices_IndexFunc_at_impl_IsPuzzle_1.l0 : Nat → List (S28) → Int → Int → Option (Int)
  | 0, _, _, _ => none
  | k + 1, x0, x7, x8 => if x8 < x7 then (if 0 ≤ x8 then (if x8 < (x0.length : Int) then ((impl_IsPuzzle_1.f ((rd_T28 x0 x8).f0) ((rd_T28 x0 x8).f1) ((rd_T28 x0 x8).f2)).bind fun t199 => (if t199 = true then (some x8) else (slices_IndexFunc_at_impl_IsPuzzle_1.l0 k x0 x7 (wrap64 (x8 + 1))))) else (none)) else (none)) else (some (-1))
def slices_IndexFunc_at_impl_IsPuzzle_1.f (k : Nat) (l0 : List (S28))  : Option (Int) := slices_IndexFunc_at_impl_IsPuzzle_1.l0 k l0 (l0.length : Int) 0
set_option maxHeartbeats 8000000 in
set_option maxRecDepth 100000 in
theorem slices_IndexFunc_at_impl_IsPuzzle_1.calls (k : Nat) (A0 : Option Addr) (c0 : Nat) (l0 : List (S28))  (r : Int) (w : World) (hr0 : Kd.C k28 w A0 l0.length l0) (hc0 : l0.length ≤ c0) (h : slices_IndexFunc_at_impl_IsPuzzle_1.f k l0 = some r) :
    Calls Try.prog 65 #[.slice A0 l0.length c0, .func (.func 45) #[] #[]] w fun e w' => e = .returned (.int .i64 r) ∧ Below w.heap.size w w' := by
 have hu28 := Try.underlying28
 have HR0 := Aside0.mk hr0
 have HC0 := Aside0.mk hc0
 clear hr0 hc0
 have HB := Aside0.mk (Below.refl w.heap.size w)
 have H : (slices_IndexFunc_at_impl_IsPuzzle_1.l0 k l0 (l0.length : Int) 0) = some r := h
 clear h
 have H' := Aside0.mk H
 clear H
 go_enter Try.func65, Try.ntmps65
 go_wp2
 go_loopg [8] k (fun kq v8 w' => ∃ (x8_1 : Int), v8 = .int .i64 x8_1 ∧ Aside0 (slices_IndexFunc_at_impl_IsPuzzle_1.l0 kq l0 (l0.length : Int) x8_1 = some r) ∧ Aside0 (kq ≤ k) ∧ Aside0 (Below w.heap.size w w'))
 case atStart => exact ⟨(0), (by first | rfl | (simp; done) | (simp [*]; done)), H', ⟨Nat.le_refl _⟩, ⟨bw HB⟩⟩
 case round =>
  clear H'
  obtain ⟨x8_1, rfl, HA, HK1, HB⟩ := hrel
  cases gk with
  | zero => exact absurd HA.out (by simp [slices_IndexFunc_at_impl_IsPuzzle_1.l0])
  | succ k1 =>
   have H := HA.out
   clear HA
   simp only [slices_IndexFunc_at_impl_IsPuzzle_1.l0] at H
   replace H := iteC H; rcases H with ⟨c3, H⟩ | ⟨c3, H⟩
   rotate_left
   ·
    have c3b0 : decide (x8_1 < (l0.length : Int)) = false := decide_eq_false c3
    clear c3
    obtain rfl := Option.some.inj H
    go_wp2
    go_ret
    exact ⟨eqR, bw HB⟩
   have c3b0 : decide (x8_1 < (l0.length : Int)) = true := decide_eq_true c3
   clear c3
   replace H := iteS H; obtain ⟨c4, H⟩ := H
   have c4b0 : decide (0 ≤ x8_1) = true := decide_eq_true c4
   clear c4
   replace H := iteS H; obtain ⟨c5, H⟩ := H
   have c5b0 : decide (x8_1 < (l0.length : Int)) = true := decide_eq_true c5
   clear c5
   replace H := bindS H; obtain ⟨t199, A6, H⟩ := H
   replace H := iteB H; rcases H with ⟨rfl, H⟩ | ⟨rfl, H⟩
   ·
    obtain rfl := Option.some.inj H
    have p198 : 0 ≤ (x8_1 : Int) := of_decide_eq_true (by first | (with_reducible assumption) | assumption)
    have q198 : x8_1 < (l0.length : Int) := of_decide_eq_true (by first | (with_reducible assumption) | assumption)
    obtain ⟨ad198, e198, hx198_0, hx198_1, hx198_2⟩ := at_T28 HR0.out x8_1 p198 q198
    cases e198
    replace hx198_0 := (HB.out.cell (World.block_lt_of_cell? w _ hx198_0)).trans hx198_0
    replace hx198_1 := (HB.out.cell (World.block_lt_of_cell? w _ hx198_1)).trans hx198_1
    replace hx198_2 := (HB.out.cell (World.block_lt_of_cell? w _ hx198_2)).trans hx198_2
    replace p198 := eq_true p198
    replace q198 := eq_true q198
    go_wp2_with (first | (go_at_call 45; (with_reducible refine (impl_IsPuzzle_1.calls ((rd_T28 l0 x8_1).f0) ((rd_T28 l0 x8_1).f1) ((rd_T28 l0 x8_1).f2) true _ A6.out).mono ?_); rintro e w8 ⟨rfl, hb⟩; replace HB := kw HB hb; (try clear hb)))
    go_ret
    exact ⟨eqR, bw HB⟩
   have H' := Aside0.mk H
   clear H
   have p198 : 0 ≤ (x8_1 : Int) := of_decide_eq_true (by first | (with_reducible assumption) | assumption)
   have q198 : x8_1 < (l0.length : Int) := of_decide_eq_true (by first | (with_reducible assumption) | assumption)
   obtain ⟨ad198, e198, hx198_0, hx198_1, hx198_2⟩ := at_T28 HR0.out x8_1 p198 q198
   cases e198
   replace hx198_0 := (HB.out.cell (World.block_lt_of_cell? w _ hx198_0)).trans hx198_0
   replace hx198_1 := (HB.out.cell (World.block_lt_of_cell? w _ hx198_1)).trans hx198_1
   replace hx198_2 := (HB.out.cell (World.block_lt_of_cell? w _ hx198_2)).trans hx198_2
   replace p198 := eq_true p198
   replace q198 := eq_true q198
   go_wp2_with (first | (go_at_call 45; (with_reducible refine (impl_IsPuzzle_1.calls ((rd_T28 l0 x8_1).f0) ((rd_T28 l0 x8_1).f1) ((rd_T28 l0 x8_1).f2) false _ A6.out).mono ?_); rintro e w9 ⟨rfl, hb⟩; replace HB := kw HB hb; (try clear hb)))
   go_roundg k1
   case measure => have := HK1.out; omega
   case rel => exact ⟨(wrap64 (x8_1 + 1)), (by first | rfl | (simp; done) | (simp [*]; done)), H', ⟨by have := HK1.out; omega⟩, ⟨bw HB⟩⟩

/-! ### slices_ContainsFunc_at_impl_IsPuzzle_1: function 44 -/
def slices_ContainsFunc_at_impl_IsPuzzle_1.f (k : Nat) (l0 : List (S28))  : Option (Bool) := (slices_IndexFunc_at_impl_IsPuzzle_1.f k l0).bind fun t200 => (some (decide (t200 ≥ 0)))
set_option maxHeartbeats 8000000 in
set_option maxRecDepth 100000 in
theorem slices_ContainsFunc_at_impl_IsPuzzle_1.calls (k : Nat) (A0 : Option Addr) (c0 : Nat) (l0 : List (S28))  (r : Bool) (w : World) (hr0 : Kd.C k28 w A0 l0.length l0) (hc0 : l0.length ≤ c0) (h : slices_ContainsFunc_at_impl_IsPuzzle_1.f k l0 = some r) :
    Calls Try.prog 44 #[.slice A0 l0.length c0, .func (.func 45) #[] #[]] w fun e w' => e = .returned (.bool r) ∧ Below w.heap.size w w' := by
 have HR0 := Aside0.mk hr0
 have HC0 := Aside0.mk hc0
 clear hr0 hc0
 have HB := Aside0.mk (Below.refl w.heap.size w)
 have H : ((slices_IndexFunc_at_impl_IsPuzzle_1.f k l0).bind fun t200 => (some (decide (t200 ≥ 0)))) = some r := h
 clear h
 replace H := bindS H; obtain ⟨t200, A3, H⟩ := H
 obtain rfl := Option.some.inj H
 go_enter Try.func44, Try.ntmps44
 go_wp2_with (first | ((with_reducible refine gate_callee (f := 65) rfl ?_); refine goK (some 7) Try.func65 #[.slice A0 l0.length c0, .func (.func 45) #[] #[]] ?_; (with_reducible refine (slices_IndexFunc_at_impl_IsPuzzle_1.calls k _ _ l0  t200 _ ?side1 ?side2 A3.out).mono ?_); (case side1 => repeat (first | exact HR0.out | (with_reducible refine Kd.C_alloc ?_ _) | (with_reducible refine Kd.C_drewN ?_ _) | (with_reducible refine Kd.C_drew ?_))); (case side2 => exact HC0.out); rintro e w4 ⟨rfl, hb⟩; refine ⟨_, rfl, ?_⟩; replace HB := kw HB hb; (try clear hb)))
 go_ret
 exact ⟨eqR, bw HB⟩

/-! ### impl_IsPuzzle: function 11 -/
def impl_IsPuzzle.f (k : Nat) (l0_0 : List (S28)) : Option (Bool) := if (l0_0.length : Int) ≤ 6 then ((slices_ContainsFunc_at_impl_IsPuzzle_1.f k l0_0).bind fun t202 => (some (!t202))) else (some false)
set_option maxHeartbeats 8000000 in
set_option maxRecDepth 100000 in
theorem impl_IsPuzzle.calls (k : Nat) (A0_0 : Option Addr) (c0_0 : Nat) (l0_0 : List (S28)) (r : Bool) (w : World) (hr0_0 : Kd.C k28 w A0_0 l0_0.length l0_0) (hc0_0 : l0_0.length ≤ c0_0) (h : impl_IsPuzzle.f k l0_0 = some r) :
    Calls Try.prog 11 #[.agg #[.slice A0_0 l0_0.length c0_0]] w fun e w' => e = .returned (.bool r) ∧ Below w.heap.size w w' := by
 have hu26 := Try.underlying26
 have HR0_0 := Aside0.mk hr0_0
 have HC0_0 := Aside0.mk hc0_0
 clear hr0_0 hc0_0
 have HB := Aside0.mk (Below.refl w.heap.size w)
 have H : (if (l0_0.length : Int) ≤ 6 then ((slices_ContainsFunc_at_impl_IsPuzzle_1.f k l0_0).bind fun t202 => (some (!t202))) else (some false)) = some r := h
 clear h
 replace H := iteC H; rcases H with ⟨c2, H⟩ | ⟨c2, H⟩
 ·
  have c2b0 : decide ((l0_0.length : Int) ≤ 6) = true := decide_eq_true c2
  have c2b1 : decide (l0_0.length ≤ 6) = true := decide_eq_true (by omega)
  clear c2
  replace H := bindS H; obtain ⟨t202, A3, H⟩ := H
  obtain rfl := Option.some.inj H
  go_enter Try.func11, Try.ntmps11
  go_wp2_with (first | ((with_reducible refine gate_dst (N := 1) rfl ?_); refine boxK HB (N := 1) (cs := #[.slice A0_0 l0_0.length c0_0]) (t := 26) (h := ?_); clear HB; intro gb1 hg w4 BK1 GW1 GE1 HB hb; clear hb hg; obtain ⟨hcz5_0, hfz5_0⟩ := kc1 BK1) | (go_at_call 44; (with_reducible refine (slices_ContainsFunc_at_impl_IsPuzzle_1.calls k _ _ l0_0  t202 _ ?side1 ?side2 A3.out).mono ?_); (case side1 => exact cb HR0_0 HB); (case side2 => exact HC0_0.out); rintro e w6 ⟨rfl, hb⟩; replace BK1 := kb BK1 hb; replace HB := kw HB hb; (try clear hb)))
  go_ret
  exact ⟨eqR, bw HB⟩
 have c2b0 : decide ((l0_0.length : Int) ≤ 6) = false := decide_eq_false c2
 have c2b1 : decide (l0_0.length ≤ 6) = false := decide_eq_false (by omega)
 clear c2
 obtain rfl := Option.some.inj H
 go_enter Try.func11, Try.ntmps11
 go_wp2_with (first | ((with_reducible refine gate_dst (N := 1) rfl ?_); refine boxK HB (N := 1) (cs := #[.slice A0_0 l0_0.length c0_0]) (t := 26) (h := ?_); clear HB; intro gb1 hg w7 BK1 GW1 GE1 HB hb; clear hb hg; obtain ⟨hcz8_0, hfz8_0⟩ := kc1 BK1))
 go_ret
 exact ⟨eqR, bw HB⟩

/-! ### slices_ContainsFunc_at_impl_solutions_1: function 44 -/
def slices_ContainsFunc_at_impl_solutions_1.ix : List S28 → Int → Int → Int → Option Int
  | [], _, _, _ => some (-1)
  | c :: cs, i, u, d => (impl_doesFit.f c.f0 c.f1 c.f2 u d).bind fun t => if t = true then slices_ContainsFunc_at_impl_solutions_1.ix cs (i + 1) u d else some i
def slices_ContainsFunc_at_impl_solutions_1.f (l0 : List S28) (u d : Int) : Option Bool := (slices_ContainsFunc_at_impl_solutions_1.ix l0 0 u d).bind fun r => some (decide (0 ≤ r))
set_option maxHeartbeats 4000000 in
set_option maxRecDepth 100000 in
theorem slices_ContainsFunc_at_impl_solutions_1.clo (c0 c1 c2 u d : Int) (g : Nat) (r : Bool) (w : World) (hb : w.heap[g]? = some (.cells #[.int .i64 u, .int .i64 d] 23 (0, 0))) (h : impl_doesFit.f c0 c1 c2 u d = some r) :
    Calls Try.prog 66 #[.agg #[.int .i64 c0, .int .i64 c1, .int .i64 c2], .pointer (some ⟨g, 0, none⟩)] w fun e w' => e = .returned (.bool (!r)) ∧ Below w.heap.size w w' := by
  have hu23 := Try.underlying23
  have hu28 := Try.underlying28
  have hc0 : w.cell? ⟨g, 0, none⟩ = some (.int .i64 u) := (blk_cell hb 0).trans rfl
  have hc1 : w.cell? ⟨g, 1, none⟩ = some (.int .i64 d) := (blk_cell hb 1).trans rfl
  have ha0 : (w.alloc (.cells #[.int .i64 c0, .int .i64 c1, .int .i64 c2] 28)).cell? ⟨g, 0, none⟩ = some (.int .i64 u) := pw_cell_below (below_alloc (Below.refl _ _) _) hc0
  have ha1 : (w.alloc (.cells #[.int .i64 c0, .int .i64 c1, .int .i64 c2] 28)).cell? ⟨g, 1, none⟩ = some (.int .i64 d) := pw_cell_below (below_alloc (Below.refl _ _) _) hc1
  have H := Aside0.mk h
  clear hb h hc0 hc1
  go_enter Try.func66, Try.ntmps66
  go_wp2_with fail
  refine (impl_doesFit.calls c0 c1 c2 u d r _ H.out).mono ?_
  rintro e w1 ⟨rfl, hb⟩
  have HB := Aside0.mk hb
  clear hb
  go_wp2_with fail
  go_ret
  exact ⟨rfl, below_then (below_alloc (Below.refl _ _) _) (by simp) HB.out⟩

set_option maxHeartbeats 4000000 in
set_option maxRecDepth 100000 in
theorem slices_ContainsFunc_at_impl_solutions_1.ix_calls (A0 : Option Addr) (c0 : Nat) (l0 : List S28) (g : Nat) (u d : Int) (r : Int) (w : World) (hr0 : Kd.C k28 w A0 l0.length l0) (hc0 : l0.length ≤ c0) (hb : w.heap[g]? = some (.cells #[.int .i64 u, .int .i64 d] 23 (0, 0))) (h : slices_ContainsFunc_at_impl_solutions_1.ix l0 0 u d = some r) :
    Calls Try.prog 65 #[.slice A0 l0.length c0, .func (.func 66) #[] #[.pointer (some ⟨g, 0, none⟩)]] w fun e w' => e = .returned (.int .i64 r) ∧ Below w.heap.size w w' := by
  have hu28 := Try.underlying28
  have HR := Aside0.mk hr0
  have HBx := Aside0.mk hb
  have hlen : l0.length ≤ 9223372036854775807 := Kd.C_max hr0
  have H0 : Aside0 (slices_ContainsFunc_at_impl_solutions_1.ix (l0.drop 0) ((0 : Nat) : Int) u d = some r) := ⟨h⟩
  clear hr0 hb h
  have HB := Aside0.mk (Below.refl w.heap.size w)
  go_enter Try.func65, Try.ntmps65
  go_wp2
  go_loopg [8] l0.length (fun gg v8 wr => ∃ kk : Nat, v8 = .int .i64 (kk : Int) ∧ Aside0 (kk ≤ l0.length) ∧ Aside0 (l0.length - kk ≤ gg) ∧ Aside0 (slices_ContainsFunc_at_impl_solutions_1.ix (l0.drop kk) (kk : Int) u d = some r) ∧ Aside0 (Below w.heap.size w wr))
  case atStart => exact ⟨0, rfl, ⟨Nat.zero_le _⟩, ⟨by omega⟩, H0, HB⟩
  case round =>
    obtain ⟨kk, rfl, HK, HG, HA, HB⟩ := hrel
    by_cases hlt : kk < l0.length
    · have H := HA.out
      clear HA
      rw [List.drop_eq_getElem_cons hlt, slices_ContainsFunc_at_impl_solutions_1.ix] at H
      obtain ⟨t, A6, H⟩ := Option.bind_eq_some_iff.mp H
      have e0 : rd_T28 l0 (kk : Int) = l0[kk] := by simp [rd_T28, hlt]
      obtain ⟨ad198, e198, hx0, hx1, hx2⟩ := at_T28 HR.out (kk : Int) (by omega) (by omega)
      cases e198
      rw [Int.toNat_natCast] at hx0 hx1 hx2
      replace hx0 := (HB.out.cell (World.block_lt_of_cell? w _ hx0)).trans hx0
      replace hx1 := (HB.out.cell (World.block_lt_of_cell? w _ hx1)).trans hx1
      replace hx2 := (HB.out.cell (World.block_lt_of_cell? w _ hx2)).trans hx2
      rw [e0] at hx0 hx1 hx2
      generalize l0[kk] = c at A6 hx0 hx1 hx2
      have E0 := Aside0.mk e0
      have A7 := Aside0.mk A6
      have H' := Aside0.mk H
      clear e0 A6 H
      have hbw : Aside0 (wr.heap[g]? = some (.cells #[.int .i64 u, .int .i64 d] 23 (0, 0))) := ⟨(HB.out.block g (Array.getElem?_eq_some_iff.1 HBx.out).1).trans HBx.out⟩
      have q1 : (kk : Int) < (l0.length : Int) := by omega
      have hl2 : (kk : Int) + 1 ≤ 9223372036854775807 := by omega
      cases t with
      | true =>
        go_wp2_with (first | (go_at_call 66; (with_reducible refine (slices_ContainsFunc_at_impl_solutions_1.clo c.f0 c.f1 c.f2 u d g true _ hbw.out A7.out).mono ?_); rintro e w8 ⟨rfl, hb⟩; have n0_ := Aside0.mk (below_step HB.out hb); clear HB; have HB := n0_; clear n0_; clear hb))
        go_roundg (l0.length - (kk + 1))
        case measure => have := HG.out; omega
        case rel => exact ⟨kk + 1, by simp, ⟨by omega⟩, ⟨by omega⟩, ⟨by have := H'.out; simpa using this⟩, HB⟩
      | false =>
        go_wp2_with (first | (go_at_call 66; (with_reducible refine (slices_ContainsFunc_at_impl_solutions_1.clo c.f0 c.f1 c.f2 u d g false _ hbw.out A7.out).mono ?_); rintro e w8 ⟨rfl, hb⟩; have n0_ := Aside0.mk (below_step HB.out hb); clear HB; have HB := n0_; clear n0_; clear hb))
        go_ret
        have hr : (kk : Int) = r := by have := H'.out; simpa using this
        exact ⟨by rw [← hr]; rfl, HB.out⟩
    · have hge : ¬ (kk : Int) < (l0.length : Int) := by omega
      have H' := HA
      clear HA
      go_wp2
      go_ret
      have hr : (-1 : Int) = r := by
        have := H'.out
        rw [List.drop_eq_nil_of_le (by omega), slices_ContainsFunc_at_impl_solutions_1.ix] at this
        exact Option.some.inj this
      exact ⟨by rw [← hr]; rfl, HB.out⟩

set_option maxHeartbeats 4000000 in
set_option maxRecDepth 100000 in
theorem slices_ContainsFunc_at_impl_solutions_1.calls (A0 : Option Addr) (c0 : Nat) (l0 : List S28) (g : Nat) (u d : Int) (r : Bool) (w : World) (hr0 : Kd.C k28 w A0 l0.length l0) (hc0 : l0.length ≤ c0) (hb : w.heap[g]? = some (.cells #[.int .i64 u, .int .i64 d] 23 (0, 0))) (h : slices_ContainsFunc_at_impl_solutions_1.f l0 u d = some r) :
    Calls Try.prog 44 #[.slice A0 l0.length c0, .func (.func 66) #[] #[.pointer (some ⟨g, 0, none⟩)]] w fun e w' => e = .returned (.bool r) ∧ Below w.heap.size w w' := by
  obtain ⟨i, hi, hr⟩ := Option.bind_eq_some_iff.mp h
  have HR := Aside0.mk hr0
  have HBx := Aside0.mk hb
  have HI := Aside0.mk hi
  have HE := Aside0.mk hr
  clear hr0 hb h hi hr
  go_enter Try.func44, Try.ntmps44
  go_wp2_with fail
  refine (slices_ContainsFunc_at_impl_solutions_1.ix_calls A0 c0 l0 g u d i _ HR.out hc0 HBx.out HI.out).mono ?_
  rintro e w1 ⟨rfl, hb⟩
  have HB := Aside0.mk hb
  clear hb
  go_wp2_with fail
  go_ret
  have hr := HE.out
  exact ⟨by simp only [Option.some.injEq] at hr; rw [← hr]; rfl, HB.out⟩


/-! ### impl_solutions: function 46 -/
mutual
def impl_solutions.l0 : Nat → List (S28) → List (S23) → Int → Option ((List (S23)))
  | 0, _, _, _ => none
  | k + 1, x0, x3, x4 => if x4 ≤ 12 then (impl_solutions.l1 k x0 x3 x4 0) else (some x3)
def impl_solutions.l1 : Nat → List (S28) → List (S23) → Int → Int → Option ((List (S23)))
  | 0, _, _, _, _ => none
  | k + 1, x0, x3, x4, x11 => if x11 < 13 then ((slices_ContainsFunc_at_impl_solutions_1.f x0 x4 x11).bind fun t204 => (if t204 = true then (impl_solutions.l1 k x0 x3 x4 (wrap64 (x11 + 1))) else (if x3.length < 8796093022208 then (impl_solutions.l1 k x0 (x3 ++ [(⟨x4, x11⟩ : S23)]) x4 (wrap64 (x11 + 1))) else (none)))) else (impl_solutions.l0 k x0 x3 (wrap64 (x4 + 1)))
end
def impl_solutions.f (k : Nat) (l0 : List (S28)) : Option ((List (S23))) := impl_solutions.l0 k l0 ([] : List (S23)) 1
set_option maxHeartbeats 8000000 in
set_option maxRecDepth 100000 in
theorem impl_solutions.calls (k : Nat) (A0 : Option Addr) (c0 : Nat) (l0 : List (S28)) (r : List (S23)) (w : World) (hr0 : Kd.C k28 w A0 l0.length l0) (hc0 : l0.length ≤ c0) (h : impl_solutions.f k l0 = some r) :
    Calls Try.prog 46 #[.slice A0 l0.length c0] w fun e w' => ∃ v0_ : Value, e = .returned (v0_) ∧ Kd.R k23 23 w' w.heap.size (fun _ => True) v0_ r ∧ Below w.heap.size w w' := by
 have hu23 := Try.underlying23
 have HR0 := Aside0.mk hr0
 have HC0 := Aside0.mk hc0
 clear hr0 hc0
 have HB := Aside0.mk (Below.refl w.heap.size w)
 have H : (impl_solutions.l0 k l0 ([] : List (S23)) 1) = some r := h
 clear h
 have H' := Aside0.mk H
 clear H
 go_enter Try.func46, Try.ntmps46
 go_wp2
 go_loopg [3, 4] k (fun kq v3 v4 w' => ∃ (x3_1 : List (S23)) (x4_1 : Int), v4 = .int .i64 x4_1 ∧ Aside0 (impl_solutions.l0 kq l0 x3_1 x4_1 = some r) ∧ Aside0 (kq ≤ k) ∧ Aside0 (Kd.R k23 23 w' w.heap.size (fun _ => True) v3 x3_1) ∧ Aside0 (Below w.heap.size w w'))
 case atStart => exact ⟨(([] : List (S23))), (1), (by first | rfl | (simp; done) | (simp [*]; done)), H', ⟨Nat.le_refl _⟩, ⟨by first | exact Kd.R_nil _ _ _ _ _ | exact Kd.N_nil _ _ _ _ _ | exact Kd.V_nil _ _ _ _ _ | exact Kd.Q_nil _ _ _ _ _ | exact Kd.S_nil _ _ _ _ _⟩, ⟨bw HB⟩⟩
 case round =>
  clear H'
  obtain ⟨x3_1, x4_1, rfl, HA, HK1, HO_3, HB⟩ := hrel
  cases gk with
  | zero => exact absurd HA.out (by simp [impl_solutions.l0])
  | succ k1 =>
   have H := HA.out
   clear HA
   simp only [impl_solutions.l0] at H
   replace H := iteC H; rcases H with ⟨c2, H⟩ | ⟨c2, H⟩
   rotate_left
   ·
    have c2b0 : decide (x4_1 ≤ 12) = false := decide_eq_false c2
    clear c2
    obtain rfl := Option.some.inj H
    go_wp2
    go_ret
    exact ⟨_, eqR, ro HO_3, bw HB⟩
   have c2b0 : decide (x4_1 ≤ 12) = true := decide_eq_true c2
   clear c2
   have H' := Aside0.mk H
   clear H
   go_wp2
   go_loopg [3, 11] k1 (fun kq v3 v11 w' => ∃ (x3_2 : List (S23)) (x11_2 : Int), v11 = .int .i64 x11_2 ∧ Aside0 (impl_solutions.l1 kq l0 x3_2 x4_1 x11_2 = some r) ∧ Aside0 (kq ≤ k1) ∧ Aside0 (Kd.R k23 23 w' w.heap.size (fun _ => True) v3 x3_2) ∧ Aside0 (Below w.heap.size w w'))
   case atStart => exact ⟨(x3_1), (0), (by first | rfl | (simp; done) | (simp [*]; done)), H', ⟨Nat.le_refl _⟩, ⟨ro HO_3⟩, ⟨bw HB⟩⟩
   case round =>
    clear H'
    try clear c2
    try clear c2b0
    obtain ⟨x3_2, x11_2, rfl, HA, HK2, HO_3, HB⟩ := hrel
    cases gk with
    | zero => exact absurd HA.out (by simp [impl_solutions.l1])
    | succ k2 =>
     have H := HA.out
     clear HA
     simp only [impl_solutions.l1] at H
     replace H := iteC H; rcases H with ⟨c3, H⟩ | ⟨c3, H⟩
     rotate_left
     ·
      have c3b0 : decide (x11_2 < 13) = false := decide_eq_false c3
      clear c3
      have H' := Aside0.mk H
      clear H
      go_wp2
      go_roundg k2
      case measure => have := HK1.out; have := HK2.out; omega
      case rel => exact ⟨(x3_2), (wrap64 (x4_1 + 1)), (by first | rfl | (simp; done) | (simp [*]; done)), H', ⟨by have := HK1.out; have := HK2.out; omega⟩, ⟨ro HO_3⟩, ⟨bw HB⟩⟩
     have c3b0 : decide (x11_2 < 13) = true := decide_eq_true c3
     clear c3
     replace H := bindS H; obtain ⟨t204, A4, H⟩ := H
     replace H := iteB H; rcases H with ⟨rfl, H⟩ | ⟨rfl, H⟩
     ·
      have H' := Aside0.mk H
      clear H
      go_wp2_with (first | ((with_reducible refine gate_dst (N := 6) rfl ?_); refine boxK HB (N := 6) (cs := #[.int .i64 0, .int .i64 0]) (t := 23) (h := ?_); clear HB; intro gb1 hg w6 BK1 GW1 GE1 HB hb; replace HO_3 := Aside0.mk (Kd.R_below (Kd.R_elderB (ro HO_3) gb1 (Nat.le_of_eq hg.symm)) hb); clear hb hg; obtain ⟨hcz7_0, hcz7_1, hfz7_0, hfz7_1⟩ := kc2 BK1) | ((with_reducible refine gate_callee (f := 44) rfl ?_); refine goK (some 19) Try.func44 #[.slice A0 l0.length c0, .func (.func 66) #[] #[.pointer (some ⟨gb1, 0, none⟩)]] ?_; (with_reducible refine (slices_ContainsFunc_at_impl_solutions_1.calls _ _ l0 gb1 x4_1 x11_2 true _ ?side1 ?side2 ?side3 A4.out).mono ?_); (case side1 => exact Kd.C_below HR0.out (bw HB)); (case side2 => exact HC0.out); (case side3 => exact bt BK1); rintro e w8 ⟨rfl, hb⟩; refine ⟨_, rfl, ?_⟩; replace HO_3 := Aside0.mk (Kd.R_below (by (with_reducible repeat (first | apply Kd.R_alloc | apply Kd.R_drewN | apply Kd.R_drew)); exact (Kd.R_mono (Kd.R_far (p := ⟨gb1, 1, none⟩) (Kd.R_far (p := ⟨gb1, 0, none⟩) (Kd.R_mono HO_3.out (fun k_ hk => (⟨hk, hk.2⟩ : _ ∧ k_ ≠ gb1))) (fun _ hk => hk.2) (.int .i64 x4_1)) (fun _ hk => hk.2) (.int .i64 x11_2)) (fun _ h_ => h_.1))) hb); replace BK1 := kbt (cs' := #[.int .i64 x4_1, .int .i64 x11_2]) BK1 hb; replace HB := kw HB hb; (try clear hb); (try clear hk)))
      go_roundg k2
      case measure => have := HK1.out; have := HK2.out; omega
      case rel => exact ⟨(x3_2), (wrap64 (x11_2 + 1)), (by first | rfl | (simp; done) | (simp [*]; done)), H', ⟨by have := HK1.out; have := HK2.out; omega⟩, ⟨by (with_reducible repeat (first | apply Kd.R_alloc | apply Kd.R_drewN | apply Kd.R_drew)); exact Kd.R_mono HO_3.out (fun _ hk => trivial)⟩, ⟨bw HB⟩⟩
     replace H := iteS H; obtain ⟨c9, H⟩ := H
     have LMc9 := Aside0.mk c9
     clear c9
     obtain ⟨y205, hy205⟩ : ∃ y_ : List (S23), y_ = (x3_2 ++ [(⟨x4_1, x11_2⟩ : S23)]) := ⟨_, rfl⟩
     replace H : (impl_solutions.l1 k2 l0 y205 x4_1 (wrap64 (x11_2 + 1))) = some r := by first | (rw [hy205]; with_reducible exact H) | (have H2_ := (Option.bind_some _ _).symm.trans H; first | (rw [hy205]; with_reducible exact H2_) | with_reducible exact H2_) | with_reducible exact H | (rw [hy205]; exact H) | exact H
     have Ny205 := Aside0.mk hy205
     clear hy205
     have H' := Aside0.mk H
     clear H
     go_wp2_with (first | ((with_reducible refine gate_dst (N := 6) rfl ?_); refine boxK HB (N := 6) (cs := #[.int .i64 0, .int .i64 0]) (t := 23) (h := ?_); clear HB; intro gb1 hg w10 BK1 GW1 GE1 HB hb; replace HO_3 := Aside0.mk (Kd.R_below (Kd.R_elderB (ro HO_3) gb1 (Nat.le_of_eq hg.symm)) hb); clear hb hg; obtain ⟨hcz11_0, hcz11_1, hfz11_0, hfz11_1⟩ := kc2 BK1) | ((with_reducible refine gate_callee (f := 44) rfl ?_); refine goK (some 19) Try.func44 #[.slice A0 l0.length c0, .func (.func 66) #[] #[.pointer (some ⟨gb1, 0, none⟩)]] ?_; (with_reducible refine (slices_ContainsFunc_at_impl_solutions_1.calls _ _ l0 gb1 x4_1 x11_2 false _ ?side1 ?side2 ?side3 A4.out).mono ?_); (case side1 => exact Kd.C_below HR0.out (bw HB)); (case side2 => exact HC0.out); (case side3 => exact bt BK1); rintro e w12 ⟨rfl, hb⟩; refine ⟨_, rfl, ?_⟩; replace HO_3 := Aside0.mk (Kd.R_below (by (with_reducible repeat (first | apply Kd.R_alloc | apply Kd.R_drewN | apply Kd.R_drew)); exact (Kd.R_mono (Kd.R_far (p := ⟨gb1, 1, none⟩) (Kd.R_far (p := ⟨gb1, 0, none⟩) (Kd.R_mono HO_3.out (fun k_ hk => (⟨hk, hk.2⟩ : _ ∧ k_ ≠ gb1))) (fun _ hk => hk.2) (.int .i64 x4_1)) (fun _ hk => hk.2) (.int .i64 x11_2)) (fun _ h_ => h_.1))) hb); replace BK1 := kbt (cs' := #[.int .i64 x4_1, .int .i64 x11_2]) BK1 hb; replace HB := kw HB hb; (try clear hb); (try clear hk); obtain ⟨hcz13_0, hcz13_1, hfz13_0, hfz13_1⟩ := kc2 BK1) | ((with_reducible refine gate_builtin (b := .append) (xs := #[.tmp 21, .tmp 23]) rfl ?_); at_builtin; refine Kd.R_append k23 (w0 := w) w.heap.size rfl (.tmp 21) (.tmp 23) 40 23 (.agg #[(.int .i64 0), (.int .i64 0)]) 16 rfl Try.underlying40 info23 rfl (by decide) (by omega) u3 x3_2 (⟨x4_1, x11_2⟩ : S23) [.int .i64 x4_1, .int .i64 x11_2] (fun k_ => k_ ≠ gb1) (fun _ => False) rfl rfl ?aP (fun _ hk => hk.elim) ?aF ?aO ?aB ?aS ?aL ?_; (case aP => exact k23_mkM _ _ _ (⟨x4_1, x11_2⟩ : S23)); (case aB => exact (bw HB)); (case aF => exact (fun k_ hk => Kd.freshB (bk BK1) k_ hk)); (case aO => exact (by (with_reducible repeat (first | apply Kd.R_alloc | apply Kd.R_drewN | apply Kd.R_drew)); exact Kd.R_mono HO_3.out (fun _ hk => hk.2))); (case aS => exact (below_size (bw HB))); (case aL => have := LMc9.out; omega); intro v206 w14 ho hb hg hat; rw [← Ny205.out] at ho; replace BK1 := Aside0.mk (blk_grown (bk BK1) hg (Kd.R_away HO_3.out (fun _ hk => hk.2))); replace HB := Aside0.mk (hb); have HO207 := Aside0.mk (ho); clear HO_3; clear ho hb hg hat))
     go_roundg k2
     case measure => have := HK1.out; have := HK2.out; omega
     case rel => exact ⟨(y205), (wrap64 (x11_2 + 1)), (by first | rfl | (simp; done) | (simp [*]; done)), H', ⟨by have := HK1.out; have := HK2.out; omega⟩, ⟨by (with_reducible repeat (first | apply Kd.R_alloc | apply Kd.R_drewN | apply Kd.R_drew)); exact Kd.R_mono HO207.out (fun _ hk => trivial)⟩, ⟨bw HB⟩⟩

/-! ### impl_Clue_47: function 47 -/
def impl_Clue_47.f (l0 : List (S28)) : Option ((List (S28))) := (some (([] : List (S28)) : List (S28))).bind fun y208 => (if y208.length + l0.length < 5864062014805 then (some (y208 ++ l0)) else (none))
set_option maxHeartbeats 8000000 in
set_option maxRecDepth 100000 in
theorem impl_Clue_47.calls_some (ad0 : Addr) (c0 : Nat) (l0 : List (S28)) (r : List (S28)) (w : World) (hr0 : Kd.C k28 w (some ad0) l0.length l0) (hc0 : l0.length ≤ c0) (h : impl_Clue_47.f l0 = some r) :
    Calls Try.prog 47 #[.slice (some ad0) l0.length c0] w fun e w' => ∃ v0_ : Value, e = .returned (v0_) ∧ Kd.R k28 28 w' w.heap.size (fun _ => True) v0_ r ∧ Below w.heap.size w w' := by
 have HR0 := Aside0.mk hr0
 have HC0 := Aside0.mk hc0
 clear hr0 hc0
 have HB := Aside0.mk (Below.refl w.heap.size w)
 have H : ((some (([] : List (S28)) : List (S28))).bind fun y208 => (if y208.length + l0.length < 5864062014805 then (some (y208 ++ l0)) else (none))) = some r := h
 clear h
 obtain ⟨y208, hy208⟩ : ∃ y_ : List (S28), y_ = (([] : List (S28))) := ⟨_, rfl⟩
 replace H : (if y208.length + l0.length < 5864062014805 then (some (y208 ++ l0)) else (none)) = some r := by first | (rw [hy208]; with_reducible exact H) | (have H2_ := (Option.bind_some _ _).symm.trans H; first | (rw [hy208]; with_reducible exact H2_) | with_reducible exact H2_) | with_reducible exact H | (rw [hy208]; exact H) | exact H
 have Ny208 := Aside0.mk hy208
 clear hy208
 replace H := iteS H; obtain ⟨c2, H⟩ := H
 have LMc2 := Aside0.mk c2
 clear c2
 obtain ⟨y211, hy211⟩ : ∃ y_ : List (S28), y_ = (y208 ++ l0) := ⟨_, rfl⟩
 replace H : (some y211) = some r := by first | (rw [hy211]; with_reducible exact H) | (have H2_ := (Option.bind_some _ _).symm.trans H; first | (rw [hy211]; with_reducible exact H2_) | with_reducible exact H2_) | with_reducible exact H | (rw [hy211]; exact H) | exact H
 have Ny211 := Aside0.mk hy211
 clear hy211
 obtain rfl := Option.some.inj H
 have hnil := fun W => Lib.run_eql_slice_nil (P := Try.prog) W 24 28 (some ad0) l0.length c0 0 0 Try.underlying24
 go_enter Try.func47, Try.ntmps47
 go_wp2_with (first | ((with_reducible refine gate_dst (N := 5) rfl ?_); refine Kd.R_lit k28 _ 28 ?hg (N := 5) ?hd (xs := ([] : List (S28))) (inner := []) (ok := fun _ => True) (okp := fun _ => True) ?hr ?hp (fun _ hk => hk) trivial (Below.refl _ _) (Nat.le_refl _) (by simp) ?_; (case hd => rfl); (case hg => rfl); (case hr => first | (go_simp; done) | (go_simp; rfl)); (case hp => exact (Reps.none _ _)); intro v209 w3 ho4 hb hg_ hnew_; clear hg_ hnew_; (first | rw [← Ny208.out] at ho4 | (simp only [Int.reduceToNat] at ho4; rw [← Ny208.out] at ho4)); have HO210 := Aside0.mk (Kd.R_lower ho4 (below_size (bw HB))); replace HB := kw HB hb; clear hb ho4) | ((with_reducible refine gate_builtin (b := .append) (xs := #[.tmp 5, .tmp 6]) rfl ?_); at_builtin; refine Kd.R_append_rows k28 (w0 := w) w.heap.size rfl (.tmp 5) (.tmp 6) 24 28 (.agg #[(.int .i64 0), (.int .i64 0), (.int .i64 0)]) 24 rfl Try.underlying24 info28 rfl (by decide) (by omega) v209 y208 l0 _ _ _ (fun _ => True) (fun _ => False) rfl rfl ?aO ?aR (fun _ _ h => h) (fun _ h => h.elim) ?aF ?aB ?aS ?aL ?_; (case aR => exact cb HR0 HB); (case aB => exact (bw HB)); (case aF => exact (fun _ _ => trivial)); (case aO => exact (ro HO210)); (case aS => exact (below_size (bw HB))); (case aL => have := LMc2.out; omega); intro v212 w5 ho hb hg hat; rw [← Ny211.out] at ho; replace HB := Aside0.mk (hb); have HO213 := Aside0.mk (ho); clear HO210; clear ho hb hg hat))
 go_ret
 exact ⟨_, eqR, ro HO213, bw HB⟩
set_option maxHeartbeats 8000000 in
theorem impl_Clue_47.calls (A0 : Option Addr) (c0 : Nat) (l0 : List (S28)) (r : List (S28)) (w : World) (hr0 : Kd.C k28 w A0 l0.length l0) (hc0 : l0.length ≤ c0) (h : impl_Clue_47.f l0 = some r) :
    Calls Try.prog 47 #[.slice A0 l0.length c0] w fun e w' => ∃ v0_ : Value, e = .returned (v0_) ∧ Kd.R k28 28 w' w.heap.size (fun _ => True) v0_ r ∧ Below w.heap.size w w' := by
  cases A0 with
  | some ad => exact impl_Clue_47.calls_some ad c0 l0 r w hr0 hc0 h
  | none =>
    have hl : l0 = [] := by
      cases l0 with
      | nil => rfl
      | cons x xs =>
        obtain ⟨ad, c, e, _⟩ := Kd.C_get hr0 x 0 (by omega) (by simp)
        cases e
    subst hl
    have hr : r = [] := by
      have h' := h
      simp [impl_Clue_47.f] at h'
      first | exact h' | exact h'.symm
    subst hr
    have hnil := fun W => Lib.run_eql_slice_nil (P := Try.prog) W 24 28 none 0 c0 0 0 Try.underlying24
    clear hr0 hc0 h
    go_enter Try.func47, Try.ntmps47
    go_wp2
    go_ret
    exact ⟨_, rfl, Kd.R_nil _ _ _ _ _, Below.refl _ _⟩


-- NOT PRINTED: function 67 (impl_Clue_67)

/-! ### impl_withoutClue: function 48 -/
set_option maxHeartbeats 4000000 in
set_option maxRecDepth 100000 in
theorem impl_withoutClue.del (base c g : Nat) (ok : Nat → Prop) (xs : List S28) (i : Nat) (W : World) (HO : Kd.R k28 28 W base ok (.slice (some ⟨g, 0, none⟩) xs.length c) xs) (hi : i < xs.length) (hbase : base ≤ W.heap.size) :
    Calls Try.prog 67 #[.slice (some ⟨g, 0, none⟩) xs.length c, .int .i64 (i : Int), .int .i64 ((i : Int) + 1)] W fun e w' => e = .returned (.slice (some ⟨g, 0, none⟩) (xs.length - 1) c) ∧ Kd.R k28 28 w' base ok (.slice (some ⟨g, 0, none⟩) (xs.length - 1) c) (xs.eraseIdx i) ∧ W.grownBy w' (some g) := by
  obtain ⟨_, hnc, _⟩ := Kd.R_reads' HO
  have hcm : c ≤ 9223372036854775807 := by
    obtain ⟨_, inner, hown, _⟩ := HO
    rcases hown.2 with ⟨hv, _⟩ | ⟨g', cap', cur, hv, hb, hh, h1, hcm, hcs, htake⟩
    · cases hv
    · injection hv with _ _ hc
      subst hc
      exact hcm
  have hic : i ≤ c := by omega
  have hic1 : i + 1 ≤ c := by omega
  have hb1 : (0 : Int) ≤ (i : Int) + 1 := by omega
  have hb2 : (i : Int) + 1 ≤ (xs.length : Int) := by omega
  have HAD : Aside0 ((if c = i + 1 then some (⟨g, 0, none⟩ : Addr) else some ⟨g, (i + 1) * 3, none⟩) = if c = i + 1 then some ⟨g, 0, none⟩ else (some (⟨g, 0, none⟩ : Addr)).map (·.add ((i + 1) * k28.sz))) := ⟨by
    simp only [Option.map_some, add_plain, Nat.zero_add]
    rfl⟩
  have HOh := Aside0.mk HO
  have hin : (Try.prog.info? 28).map (·.size) = some k28.sz := by kernel_rfl
  clear HO
  go_enter Try.func67, Try.ntmps67
  go_wp2_with fail
  go_region_law (refine Kd.R_delete_step k28 (w0 := W) base rfl (.tmp 22) (.tmp 25) 24 28 rfl Try.underlying24 hin (g := g) (k := i) (n := xs.length) (c := c) (A := if c = i + 1 then some ⟨g, 0, none⟩ else some ⟨g, (i + 1) * 3, none⟩) (by simp [Act.eval, Act.put]) (by simp [Act.eval, Act.put]; rfl) (by rw [← HAD.out]) rfl (Kd.R_drew HOh.out) hi ((Below.refl _ _).drew) (by simpa using hbase) ?_; intro w1 hr hb hg)
  have hgA := Aside0.mk hg
  have hbA := Aside0.mk hb
  have hrA := Aside0.mk hr
  clear hg hb hr
  have e1 : (1 : Nat) ≤ xs.length := by omega
  have hlen : (xs.eraseIdx i).length = xs.length - 1 := List.length_eraseIdx_of_lt hi
  obtain ⟨cur, hcur, hcs, _⟩ := Go.Proofs.YtlpjooijkeadbaaK.R_block k28 hrA.out
  have hT := Aside0.mk (Go.Proofs.YtlpjooijkeadbaaK.R_tail k28 (W := w1) (by rw [hlen]; exact hrA.out) ((xs.length - 1) * 3) [.int .i64 0, .int .i64 0, .int .i64 0] (by rw [hlen]; exact Nat.le_refl _) (by show _ ≤ c * 3; simp; omega))
  have hcl := Go.Proofs.YtlpjooijkeadbaaK.run_clear_one (P := Try.prog) w1 24 28 0 (.agg #[.int .i64 0, .int .i64 0, .int .i64 0]) Try.underlying24 (fun _ => by kernel_rfl) [.int .i64 0, .int .i64 0, .int .i64 0] (by kernel_rfl) (by simp [Value.oneCell']) g ((xs.length - 1) * 3) (xs.length - (xs.length - 1)) (c - (xs.length - 1)) (by omega) cur hcur (by rw [hcs]; show _ ≤ c * 3; simp; omega)
  have hcurA := Aside0.mk hcur
  have hlenA := Aside0.mk hlen
  clear hcur hcs hlen
  go_wp2
  all_goals
    go_ret
    have hT1 := hT.out.1
    rw [hlenA.out] at hT1
    refine ⟨by rfl, by first | exact hT1 | (rw [show i + 1 = c by omega]; exact hT1), ?_⟩
    exact (World.grownBy.trans (show W.grownBy W.drew (some g) from ⟨rfl, rfl, rfl, Nat.le_refl _, fun _ _ _ => rfl⟩) (World.grownBy.trans hgA.out hT.out.2))

def impl_withoutClue.f (l0 : List S28) (a1 : Int) : Option (List S28) := if 0 ≤ a1 ∧ a1 < (l0.length : Int) then (impl_Clue_47.f l0).bind fun y => some (y.eraseIdx a1.toNat) else none
set_option maxHeartbeats 4000000 in
set_option maxRecDepth 100000 in
theorem impl_withoutClue.calls (A0 : Option Addr) (c0 : Nat) (l0 : List (S28)) (a1 : Int) (r : List (S28)) (w : World) (hr0 : Kd.C k28 w A0 l0.length l0) (hc0 : l0.length ≤ c0) (h : impl_withoutClue.f l0 a1 = some r) :
    Calls Try.prog 48 #[.slice A0 l0.length c0, .int .i64 a1] w fun e w' => ∃ v0_ : Value, e = .returned (v0_) ∧ Kd.R k28 28 w' w.heap.size (fun _ => True) v0_ r ∧ Below w.heap.size w w' := by
  unfold impl_withoutClue.f at h
  by_cases hk : 0 ≤ a1 ∧ a1 < (l0.length : Int)
  · rw [if_pos hk] at h
    obtain ⟨y, hy, hr⟩ := Option.bind_eq_some_iff.mp h
    obtain ⟨i, rfl⟩ : ∃ i : Nat, a1 = (i : Int) := ⟨a1.toNat, by omega⟩
    have hyl : y = l0 ∧ l0.length < 5864062014805 := by
      unfold impl_Clue_47.f at hy
      simp only [Option.bind_some, List.nil_append, List.length_nil, Nat.zero_add] at hy
      split at hy
      · exact ⟨(Option.some.inj hy).symm, by assumption⟩
      · cases hy
    obtain ⟨rfl, hlim⟩ := hyl
    obtain rfl : y.eraseIdx i = r := by simpa using hr
    have hil : i < y.length := by omega
    have HY := Aside0.mk hy
    have hcr := Aside0.mk hr0
    clear hk h hr hy hr0
    have hi2 : (i : Int) < 5864062014805 := by omega
    go_enter Try.func48, Try.ntmps48
    go_wp2_with fail
    refine (impl_Clue_47.calls _ _ y y _ hcr.out hc0 HY.out).mono ?_
    rintro e w1 ⟨v, rfl, ho, hb⟩
    obtain ⟨g, c, rfl⟩ := Go.Proofs.YtlpjooijkeadbaaK.R_some k28 ho (by omega)
    have HO := Aside0.mk ho
    have HB := Aside0.mk hb
    clear ho hb
    have hwl : w.heap.size ≤ w1.heap.size := HB.out.size
    go_wp2_with fail
    refine (impl_withoutClue.del w.heap.size c g (fun _ => True) y i _ HO.out hil hwl).mono ?_
    rintro e w2 ⟨rfl, hR, hG⟩
    have HR2 := Aside0.mk hR
    have HG2 := Aside0.mk hG
    clear hR hG
    go_wp2_with fail
    go_ret
    exact ⟨_, rfl, HR2.out, HB.out.grown HG2.out hwl (fun k hk => Kd.R_base HO.out k (by simpa [Value.ownBlock] using hk))⟩
  · rw [if_neg hk] at h
    cases h


/-! ### impl_HarderPuzzle: function 12 -/
mutual
def impl_HarderPuzzle.j0 : Nat → Bool → List (S28) → Option ((List (S28)) × Bool)
  | 0, _, _ => none
  | k + 1, x16, x215000 => if x16 = true then (some (([] : List (S28)), false)) else ((impl_Clue_47.f x215000).bind fun t220 => (impl_HarderPuzzle.l0 k t220 0))
def impl_HarderPuzzle.l0 : Nat → List (S28) → Int → Option ((List (S28)) × Bool)
  | 0, _, _ => none
  | k + 1, x4, x5 => if x5 < (x4.length : Int) then ((impl_withoutClue.f x4 x5).bind fun t223 => ((impl_solutions.f k t223).bind fun t226 => (if (t226.length : Int) = 1 then (impl_HarderPuzzle.l0 k t223 x5) else (impl_HarderPuzzle.l0 k x4 (wrap64 (x5 + 1)))))) else (some (x4, true))
end
def impl_HarderPuzzle.f (k : Nat) (l0_0 : List (S28)) : Option ((List (S28)) × Bool) := (impl_IsPuzzle.f k l0_0).bind fun t216 => (if t216 = true then ((impl_solutions.f k l0_0).bind fun t217 => (impl_HarderPuzzle.j0 k ((t217.length : Int) != 1) l0_0)) else (impl_HarderPuzzle.j0 k true l0_0))
set_option maxHeartbeats 8000000 in
set_option maxRecDepth 100000 in
theorem impl_HarderPuzzle.calls (k : Nat) (A0_0 : Option Addr) (c0_0 : Nat) (l0_0 : List (S28)) (r1 : List (S28)) (r2 : Bool) (w : World) (hr0_0 : Kd.C k28 w A0_0 l0_0.length l0_0) (hc0_0 : l0_0.length ≤ c0_0) (h : impl_HarderPuzzle.f k l0_0 = some (r1, r2)) :
    Calls Try.prog 12 #[.agg #[.slice A0_0 l0_0.length c0_0]] w fun e w' => ∃ v0_ : Value, e = .returned (.tuple #[.agg #[v0_], .bool r2]) ∧ Kd.R k28 28 w' w.heap.size (fun _ => True) v0_ r1 ∧ Below w.heap.size w w' := by
 have hu26 := Try.underlying26
 have HR0_0 := Aside0.mk hr0_0
 have HC0_0 := Aside0.mk hc0_0
 clear hr0_0 hc0_0
 have HB := Aside0.mk (Below.refl w.heap.size w)
 have H : ((impl_IsPuzzle.f k l0_0).bind fun t216 => (if t216 = true then ((impl_solutions.f k l0_0).bind fun t217 => (impl_HarderPuzzle.j0 k ((t217.length : Int) != 1) l0_0)) else (impl_HarderPuzzle.j0 k true l0_0))) = some (r1, r2) := h
 clear h
 have HC2 := Aside0.mk H
 clear H
 go_enter Try.func12, Try.ntmps12
 go_upto_region 1 with (first | ((with_reducible refine gate_dst (N := 1) rfl ?_); (try (refine gate_guard (by rfl) ?_; dsimp only)); refine boxK HB (N := 1) (cs := #[.slice A0_0 l0_0.length c0_0]) (t := 26) (h := ?_); clear HB; intro gb1 hg w3 BK1 GW1 GE1 HB hb; clear hb hg) | ((with_reducible refine gate_dst (N := 2) rfl ?_); (try (refine gate_guard (by rfl) ?_; dsimp only)); refine boxK HB (N := 2) (cs := #[.slice none 0 0]) (t := 26) (h := ?_); clear HB; intro gb2 hg w4 BK2 GW2 GE2 HB hb; obtain ⟨NB1_2, NB2_1⟩ := nv1 hg BK1; replace BK1 := kb BK1 hb; clear hb hg))
 (try simp only [Act.put, List.setIfInBounds_toArray, List.set_cons_zero, List.set_cons_succ])
 go_cut [16] (fun v16 wc => ∃ (kq : Nat) (x16_1 : Bool), v16 = .bool x16_1 ∧ Aside0 (impl_HarderPuzzle.j0 kq x16_1 l0_0 = some (r1, r2)) ∧ Aside0 (kq ≤ k) ∧ Aside0 (wc.heap[gb1]? = some (.cells #[(.slice A0_0 l0_0.length c0_0)] 26 (0, 0))) ∧ Aside0 (wc.heap[gb2]? = some (.cells #[(.slice none 0 0)] 26 (0, 0))) ∧ Aside0 (Below w.heap.size w wc))
 case first =>
  have H := HC2.out
  clear HC2
  replace H := bindS H; obtain ⟨t216, A5, H⟩ := H
  replace H := iteB H; rcases H with ⟨rfl, H⟩ | ⟨rfl, H⟩
  ·
   replace H := bindS H; obtain ⟨t217, A7, H⟩ := H
   have H' := Aside0.mk H
   clear H
   have hnb8 := up1 NB1_2
   obtain ⟨hcz9_0, hfz9_0⟩ := kc1 BK1
   go_wp2_with (first | ((with_reducible refine gate_callee (f := 11) rfl ?_); refine goK (some 8) Try.func11 #[.agg #[.slice A0_0 l0_0.length c0_0]] ?_; (with_reducible refine (impl_IsPuzzle.calls k _ _ l0_0 true _ ?side1 ?side2 A5.out).mono ?_); (case side1 => exact cb HR0_0 HB); (case side2 => exact HC0_0.out); rintro e w10 ⟨rfl, hb⟩; refine ⟨_, rfl, ?_⟩; refine mv2 hb BK1 BK2 ?_; clear BK1 BK2; intro BK1 BK2; replace HB := kw HB hb; (try clear hb); obtain ⟨hcz11_0, hfz11_0⟩ := kc1 BK1) | (go_at_call 46; (with_reducible refine (impl_solutions.calls k _ _ l0_0 t217 _ ?side1 ?side2 A7.out).mono ?_); (case side1 => exact cb HR0_0 HB); (case side2 => exact HC0_0.out); rintro e w12 ⟨v218, rfl, ho0, hb⟩; have HO219 := Aside0.mk (Kd.R_lower ho0 (below_size (bw HB))); refine mv2 hb BK1 BK2 ?_; clear BK1 BK2; intro BK1 BK2; replace HB := kw HB hb; (try clear hb); (try clear ho0); obtain ⟨Ao13, co13, eo13⟩ := Kd.R_slice HO219.out; subst eo13))
   go_meet
   case rel => exact ⟨_, (((t217.length : Int) != 1)), (by first | rfl | (simp; done) | (simp [*]; done)), H', ⟨by first | omega | exact Nat.le_refl _⟩, ⟨bk BK1⟩, ⟨bk BK2⟩, ⟨bw HB⟩⟩
  have H' := Aside0.mk H
  clear H
  have hnb14 := up1 NB1_2
  obtain ⟨hcz15_0, hfz15_0⟩ := kc1 BK1
  go_wp2_with (first | ((with_reducible refine gate_callee (f := 11) rfl ?_); refine goK (some 8) Try.func11 #[.agg #[.slice A0_0 l0_0.length c0_0]] ?_; (with_reducible refine (impl_IsPuzzle.calls k _ _ l0_0 false _ ?side1 ?side2 A5.out).mono ?_); (case side1 => exact cb HR0_0 HB); (case side2 => exact HC0_0.out); rintro e w16 ⟨rfl, hb⟩; refine ⟨_, rfl, ?_⟩; refine mv2 hb BK1 BK2 ?_; clear BK1 BK2; intro BK1 BK2; replace HB := kw HB hb; (try clear hb)))
  go_meet
  case rel => exact ⟨_, (true), (by first | rfl | (simp; done) | (simp [*]; done)), H', ⟨by first | omega | exact Nat.le_refl _⟩, ⟨bk BK1⟩, ⟨bk BK2⟩, ⟨bw HB⟩⟩
 case rest =>
  clear HC2
  obtain ⟨kq, x16_1, rfl, HA, HJ1, BK1, BK2, HB⟩ := hcut
  cases kq with
  | zero => exact absurd HA.out (by simp [impl_HarderPuzzle.j0])
  | succ kj1 =>
   have H := HA.out
   clear HA
   simp only [impl_HarderPuzzle.j0] at H
   replace H := iteB H; rcases H with ⟨rfl, H⟩ | ⟨rfl, H⟩
   ·
    simp only [Option.some.injEq, Prod.mk.injEq] at H
    obtain ⟨rfl, rfl⟩ := H
    have hnb18 := up1 NB2_1
    obtain ⟨hcz19_0, hfz19_0⟩ := kc1 BK2
    go_wp2
    refine bodyPost_ret (results_ct rfl _ _ gb2 26 #[.slice none 0 0] (0, 0) _ rfl (bt BK2) Try.underlying26 rfl (by kernel_rfl)) rfl ?_
    exact ⟨_, eqR, by first | exact Kd.R_nil _ _ _ _ _ | exact Kd.N_nil _ _ _ _ _ | exact Kd.V_nil _ _ _ _ _ | exact Kd.Q_nil _ _ _ _ _ | exact Kd.S_nil _ _ _ _ _, bw HB⟩
   replace H := bindS H; obtain ⟨t220, A20, H⟩ := H
   have H' := Aside0.mk H
   clear H
   have hnb21 := up1 NB1_2
   obtain ⟨hcz22_0, hfz22_0⟩ := kc1 BK1
   go_wp2_with (first | ((with_reducible refine gate_callee (f := 47) rfl ?_); refine goK (some 20) Try.func47 #[.slice A0_0 l0_0.length c0_0] ?_; (with_reducible refine (impl_Clue_47.calls _ _ l0_0 t220 _ ?side1 ?side2 A20.out).mono ?_); (case side1 => exact cb HR0_0 HB); (case side2 => exact HC0_0.out); rintro e w23 ⟨v221, rfl, ho0, hb⟩; refine ⟨_, rfl, ?_⟩; have HO222 := Aside0.mk (Kd.R_lower ho0 (below_size (bw HB))); refine mv2 hb BK1 BK2 ?_; clear BK1 BK2; intro BK1 BK2; replace HB := kw HB hb; (try clear hb); (try clear ho0)))
   go_loopg [4, 5] kj1 (fun kq v4 v5 w' => ∃ (x4_2 : List (S28)) (x5_2 : Int), v5 = .int .i64 x5_2 ∧ Aside0 (impl_HarderPuzzle.l0 kq x4_2 x5_2 = some (r1, r2)) ∧ Aside0 (kq ≤ kj1) ∧ Aside0 (Kd.R k28 28 w' w.heap.size (fun _ => True) v4 x4_2) ∧ Aside0 (w'.heap[gb1]? = some (.cells #[(.slice A0_0 l0_0.length c0_0)] 26 (0, 0))) ∧ Aside0 (w'.heap[gb2]? = some (.cells #[(.slice none 0 0)] 26 (0, 0))) ∧ Aside0 (Below w.heap.size w w'))
   case atStart => exact ⟨(t220), (0), (by first | rfl | (simp; done) | (simp [*]; done)), H', ⟨Nat.le_refl _⟩, ⟨ro HO222⟩, ⟨bk BK1⟩, ⟨bk BK2⟩, ⟨bw HB⟩⟩
   case round =>
    clear H'
    try clear hcz22_0
    try clear hfz22_0
    obtain ⟨x4_2, x5_2, rfl, HA, HK2, HO_4, BK1, BK2, HB⟩ := hrel
    cases gk with
    | zero => exact absurd HA.out (by simp [impl_HarderPuzzle.l0])
    | succ k2 =>
     have H := HA.out
     clear HA
     simp only [impl_HarderPuzzle.l0] at H
     replace H := iteC H; rcases H with ⟨c24, H⟩ | ⟨c24, H⟩
     rotate_left
     ·
      have c24b0 : decide (x5_2 < (x4_2.length : Int)) = false := decide_eq_false c24
      clear c24
      simp only [Option.some.injEq, Prod.mk.injEq] at H
      obtain ⟨rfl, rfl⟩ := H
      obtain ⟨Ao38, co38, eo38⟩ := Kd.R_slice HO_4.out
      subst eo38
      have hnb39 := up1 NB2_1
      obtain ⟨hcz40_0, hfz40_0⟩ := kc1 BK2
      go_wp2
      refine bodyPost_ret (results_ct rfl _ _ gb2 26 #[.slice Ao38 x4_2.length co38] (0, 0) _ rfl (bt BK2) Try.underlying26 rfl (by kernel_rfl)) rfl ?_
      exact ⟨_, eqR, by (with_reducible repeat (first | apply Kd.R_alloc | apply Kd.R_drewN | apply Kd.R_drew)); exact Kd.R_mono (Kd.R_far (p := ⟨gb2, 0, none⟩) (Kd.R_types HO_4.out BK2.out (by decide)) (fun _ hk => hk.2) (.slice Ao38 x4_2.length co38)) (fun _ hk => trivial), bw HB⟩
     have c24b0 : decide (x5_2 < (x4_2.length : Int)) = true := decide_eq_true c24
     clear c24
     replace H := bindS H; obtain ⟨t223, A25, H⟩ := H
     replace H := bindS H; obtain ⟨t226, A26, H⟩ := H
     replace H := iteC H; rcases H with ⟨c27, H⟩ | ⟨c27, H⟩
     ·
      have c27b0 : ((t226.length : Int) == 1) = true := beq_iff_eq.mpr c27
      have c27b1 : ((t226.length : Int) != 1) = false := bne_eq_false_iff_eq.mpr c27
      clear c27
      have H' := Aside0.mk H
      clear H
      obtain ⟨Ao28, co28, eo28⟩ := Kd.R_slice HO_4.out
      subst eo28
      go_wp2_with (first | ((with_reducible refine gate_callee (f := 48) rfl ?_); refine goK (some 27) Try.func48 #[.slice Ao28 x4_2.length co28, .int .i64 x5_2] ?_; (with_reducible refine (impl_withoutClue.calls _ _ x4_2 x5_2 t223 _ ?side1 ?side2 A25.out).mono ?_); (case side1 => exact rs HO_4); (case side2 => exact rl HO_4); rintro e w29 ⟨v224, rfl, ho0, hb⟩; refine ⟨_, rfl, ?_⟩; have HO225 := Aside0.mk (Kd.R_lower (Kd.R_new' ho0 (Kd.R_lt (ro HO_4))) (below_size (bw HB))); replace HO_4 := Aside0.mk (Kd.R_elder' (ro HO_4) (Kd.R_base ho0) hb); refine mv2 hb BK1 BK2 ?_; clear BK1 BK2; intro BK1 BK2; replace HB := kw HB hb; (try clear hb); (try clear ho0); obtain ⟨Ao30, co30, eo30⟩ := Kd.R_slice HO225.out; subst eo30) | ((with_reducible refine gate_callee (f := 46) rfl ?_); refine goK (some 29) Try.func46 #[.slice Ao30 t223.length co30] ?_; (with_reducible refine (impl_solutions.calls k2 _ _ t223 t226 _ ?side1 ?side2 A26.out).mono ?_); (case side1 => exact rs HO225); (case side2 => exact rl HO225); rintro e w31 ⟨v227, rfl, ho0, hb⟩; refine ⟨_, rfl, ?_⟩; replace HO_4 := ko HO_4 hb; replace HO225 := ko HO225 hb; have HO228 := Aside0.mk (Kd.R_lower ho0 (below_size (bw HB))); refine mv2 hb BK1 BK2 ?_; clear BK1 BK2; intro BK1 BK2; replace HB := kw HB hb; (try clear hb); (try clear ho0); obtain ⟨Ao32, co32, eo32⟩ := Kd.R_slice HO228.out; subst eo32))
      go_roundg k2
      case measure => have := HJ1.out; have := HK2.out; omega
      case rel => exact ⟨(t223), (x5_2), (by first | rfl | (simp; done) | (simp [*]; done)), H', ⟨by have := HJ1.out; have := HK2.out; omega⟩, ⟨by (with_reducible repeat (first | apply Kd.R_alloc | apply Kd.R_drewN | apply Kd.R_drew)); exact Kd.R_mono HO225.out (fun _ hk => trivial)⟩, ⟨bk BK1⟩, ⟨bk BK2⟩, ⟨bw HB⟩⟩
     have c27b0 : ((t226.length : Int) == 1) = false := beq_eq_false_iff_ne.mpr c27
     have c27b1 : ((t226.length : Int) != 1) = true := bne_iff_ne.mpr c27
     have H' := Aside0.mk H
     clear H
     obtain ⟨Ao33, co33, eo33⟩ := Kd.R_slice HO_4.out
     subst eo33
     go_wp2_with (first | ((with_reducible refine gate_callee (f := 48) rfl ?_); refine goK (some 27) Try.func48 #[.slice Ao33 x4_2.length co33, .int .i64 x5_2] ?_; (with_reducible refine (impl_withoutClue.calls _ _ x4_2 x5_2 t223 _ ?side1 ?side2 A25.out).mono ?_); (case side1 => exact rs HO_4); (case side2 => exact rl HO_4); rintro e w34 ⟨v224, rfl, ho0, hb⟩; refine ⟨_, rfl, ?_⟩; have HO225 := Aside0.mk (Kd.R_lower (Kd.R_new' ho0 (Kd.R_lt (ro HO_4))) (below_size (bw HB))); replace HO_4 := Aside0.mk (Kd.R_elder' (ro HO_4) (Kd.R_base ho0) hb); refine mv2 hb BK1 BK2 ?_; clear BK1 BK2; intro BK1 BK2; replace HB := kw HB hb; (try clear hb); (try clear ho0); obtain ⟨Ao35, co35, eo35⟩ := Kd.R_slice HO225.out; subst eo35) | ((with_reducible refine gate_callee (f := 46) rfl ?_); refine goK (some 29) Try.func46 #[.slice Ao35 t223.length co35] ?_; (with_reducible refine (impl_solutions.calls k2 _ _ t223 t226 _ ?side1 ?side2 A26.out).mono ?_); (case side1 => exact rs HO225); (case side2 => exact rl HO225); rintro e w36 ⟨v227, rfl, ho0, hb⟩; refine ⟨_, rfl, ?_⟩; replace HO_4 := ko HO_4 hb; replace HO225 := ko HO225 hb; have HO228 := Aside0.mk (Kd.R_lower ho0 (below_size (bw HB))); refine mv2 hb BK1 BK2 ?_; clear BK1 BK2; intro BK1 BK2; replace HB := kw HB hb; (try clear hb); (try clear ho0); obtain ⟨Ao37, co37, eo37⟩ := Kd.R_slice HO228.out; subst eo37))
     go_roundg k2
     case measure => have := HJ1.out; have := HK2.out; omega
     case rel => exact ⟨(x4_2), (wrap64 (x5_2 + 1)), (by first | rfl | (simp; done) | (simp [*]; done)), H', ⟨by have := HJ1.out; have := HK2.out; omega⟩, ⟨by (with_reducible repeat (first | apply Kd.R_alloc | apply Kd.R_drewN | apply Kd.R_drew)); exact Kd.R_mono HO_4.out (fun _ hk => trivial)⟩, ⟨bk BK1⟩, ⟨bk BK2⟩, ⟨bw HB⟩⟩

end Go.Proofs.Ytlpjooijkeadbaa.PH
