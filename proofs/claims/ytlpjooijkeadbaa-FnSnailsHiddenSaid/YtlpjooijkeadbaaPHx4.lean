-- Written by a program of our own (wip/tools/xprint.py) for this claim; Lean checks it.
import Derived.Test.YtlpjooijkeadbaaPHx0
import Derived.Test.YtlpjooijkeadbaaPHx3
namespace Go.Proofs.Ytlpjooijkeadbaa.PH
open Go.RowKit Go.Proofs.YtlpjooijkeadbaaK Go.Proofs.YtlpjooijkeadbaaW.PrintWords Go.Proofs.YtlpjooijkeadbaaW.PrintLast Go.Proofs.YtlpjooijkeadbaaW.PrintMore
attribute [local go_sem] max2_int min2_int max_two min_two max_three min_three max_four min_four   -- for this text's walks alone
set_option linter.unusedVariables false
set_option linter.unusedSimpArgs false

attribute [local go_sem high] eqA28
/-! ### spec_pzOf: function 38 -/
def spec_pzOf.j0 : Nat → Int → Int → Int → Int → Bool → Int → Int → Option (Int × Int × Int)
  | 0, _, _, _, _, _, _, _ => none
  | k + 1, x0, x1, x7, x8, x9, x145000, x145001 => if x9 = true then ((spec_pzValue.f x0 (wrap64 ((Int.tmod x1 100) + 1)) x145000 x145001).bind fun t146 => (some (x0, wrap64 ((Int.tmod x1 100) + 1), t146))) else (if x8 = 3 then ((spec_pzValue.f x0 (wrap64 ((Int.tmod x1 8) + 2)) x145000 x145001).bind fun t147 => (some (x0, wrap64 ((Int.tmod x1 8) + 2), t147))) else ((spec_pzValue.f x0 x7 x145000 x145001).bind fun t148 => (some (x0, x7, t148))))
def spec_pzOf.f (k : Nat) (a0 : Int) (a1 : Int) (a2_0 : Int) (a2_1 : Int) : Option (Int × Int × Int) := if a0 = 0 then (spec_pzOf.j0 k a0 a1 0 a0 (a0 == 0) a2_0 a2_1) else (spec_pzOf.j0 k a0 a1 0 a0 (a0 == 1) a2_0 a2_1)
set_option maxHeartbeats 8000000 in
set_option maxRecDepth 100000 in
theorem spec_pzOf.calls (k : Nat) (a0 : Int) (a1 : Int) (a2_0 : Int) (a2_1 : Int) (r1 : Int) (r2 : Int) (r3 : Int) (w : World) (h : spec_pzOf.f k a0 a1 a2_0 a2_1 = some (r1, r2, r3)) :
    Calls Try.prog 38 #[.int .i64 a0, .int .i64 a1, .agg #[.int .i64 a2_0, .int .i64 a2_1]] w fun e w' => e = .returned (.agg #[.int .i64 r1, .int .i64 r2, .int .i64 r3]) ∧ Below w.heap.size w w' := by
 have hu23 := Try.underlying23
 have hu28 := Try.underlying28
 have HB := Aside0.mk (Below.refl w.heap.size w)
 have H : (if a0 = 0 then (spec_pzOf.j0 k a0 a1 0 a0 (a0 == 0) a2_0 a2_1) else (spec_pzOf.j0 k a0 a1 0 a0 (a0 == 1) a2_0 a2_1)) = some (r1, r2, r3) := h
 clear h
 have HC4 := Aside0.mk H
 clear H
 go_enter Try.func38, Try.ntmps38
 go_upto_if 9 with (first | ((with_reducible refine gate_dst (N := 5) rfl ?_); refine boxK HB (N := 5) (cs := #[.int .i64 a2_0, .int .i64 a2_1]) (t := 23) (h := ?_); clear HB; intro gb1 hg w5 BK1 GW1 GE1 HB hb; clear hb hg) | ((with_reducible refine gate_dst (N := 6) rfl ?_); refine boxK HB (N := 6) (cs := #[.int .i64 0, .int .i64 0, .int .i64 0]) (t := 28) (h := ?_); clear HB; intro gb2 hg w6 BK2 GW2 GE2 HB hb; obtain ⟨NB1_2, NB2_1⟩ := nv1 hg BK1; replace BK1 := kb BK1 hb; clear hb hg))
 (try simp only [Act.put, List.setIfInBounds_toArray, List.set_cons_zero, List.set_cons_succ])
 go_cut [9] (fun v9 wc => ∃ (kq : Nat) (x9_3 : Bool), v9 = .bool x9_3 ∧ Aside0 (spec_pzOf.j0 kq a0 a1 0 a0 x9_3 a2_0 a2_1 = some (r1, r2, r3)) ∧ Aside0 (kq ≤ k) ∧ Aside0 (wc.heap[gb1]? = some (.cells #[.int .i64 a2_0, .int .i64 a2_1] 23 (0, 0))) ∧ Aside0 (wc.heap[gb2]? = some (.cells #[.int .i64 0, .int .i64 0, .int .i64 0] 28 (0, 0))) ∧ Aside0 (Below w.heap.size w wc))
 case first =>
  have H := HC4.out
  clear HC4
  replace H := iteC H; rcases H with ⟨c7, H⟩ | ⟨c7, H⟩
  ·
   have c7b0 : (a0 == 0) = true := beq_iff_eq.mpr c7
   have c7b1 : (a0 != 0) = false := bne_eq_false_iff_eq.mpr c7
   clear c7
   (first | rw [c7b0] | (simp only [i64_w, i32_w]; rw [c7b0]) | skip)
   have H' := Aside0.mk H
   clear H
   go_wp2
   go_meet
   case rel => exact ⟨_, ((a0 == 0)), (by first | rfl | (simp; done) | (simp [*]; done)), H', ⟨by first | omega | exact Nat.le_refl _⟩, ⟨bk BK1⟩, ⟨bk BK2⟩, ⟨bw HB⟩⟩
  have c7b0 : (a0 == 0) = false := beq_eq_false_iff_ne.mpr c7
  have c7b1 : (a0 != 0) = true := bne_iff_ne.mpr c7
  (first | rw [c7b0] | (simp only [i64_w, i32_w]; rw [c7b0]) | skip)
  have H' := Aside0.mk H
  clear H
  go_wp2
  go_meet
  case rel => exact ⟨_, ((a0 == 1)), (by first | rfl | (simp; done) | (simp [*]; done)), H', ⟨by first | omega | exact Nat.le_refl _⟩, ⟨bk BK1⟩, ⟨bk BK2⟩, ⟨bw HB⟩⟩
 case rest =>
  clear HC4
  obtain ⟨kq, x9_3, rfl, HA, HJ3, BK1, BK2, HB⟩ := hcut
  cases kq with
  | zero => exact absurd HA.out (by simp [spec_pzOf.j0])
  | succ kj3 =>
   have H := HA.out
   clear HA
   simp only [spec_pzOf.j0] at H
   replace H := iteB H; rcases H with ⟨rfl, H⟩ | ⟨rfl, H⟩
   ·
    replace H := bindS H; obtain ⟨t146, A9, H⟩ := H
    simp only [Option.some.injEq, Prod.mk.injEq] at H
    obtain ⟨rfl, rfl, rfl⟩ := H
    have hnb10 := up1 NB1_2
    obtain ⟨hcz11_0, hcz11_1, hfz11_0, hfz11_1⟩ := kc2 BK1
    go_wp2_with (first | ((with_reducible refine gate_callee (f := 62) rfl ?_); refine goK (some 25) Try.func62 #[.int .i64 a0, .int .i64 (wrap64 ((Int.tmod a1 100) + 1)), .agg #[.int .i64 a2_0, .int .i64 a2_1]] ?_; (with_reducible refine (spec_pzValue.calls a0 (wrap64 ((Int.tmod a1 100) + 1)) a2_0 a2_1 t146 _ A9.out).mono ?_); rintro e w12 ⟨rfl, hb⟩; refine ⟨_, rfl, ?_⟩; refine mv2 hb BK1 BK2 ?_; clear BK1 BK2; intro BK1 BK2; replace HB := kw HB hb; (try clear hb); obtain ⟨hcz13_0, hcz13_1, hcz13_2, hfz13_0, hfz13_1, hfz13_2⟩ := kc3 BK2))
    refine bodyPost_ret (results_cell_row rfl _ _ gb2 28 #[.int .i64 a0, .int .i64 (wrap64 ((Int.tmod a1 100) + 1)), .int .i64 t146] (0, 0) _ rfl (bt BK2) Try.underlying28 rfl (by kernel_rfl)) rfl ?_
    exact ⟨eqR, bw HB⟩
   replace H := iteC H; rcases H with ⟨c14, H⟩ | ⟨c14, H⟩
   ·
    have c14b0 : (a0 == 3) = true := beq_iff_eq.mpr c14
    have c14b1 : (a0 != 3) = false := bne_eq_false_iff_eq.mpr c14
    clear c14
    replace H := bindS H; obtain ⟨t147, A15, H⟩ := H
    simp only [Option.some.injEq, Prod.mk.injEq] at H
    obtain ⟨rfl, rfl, rfl⟩ := H
    have hnb16 := up1 NB1_2
    obtain ⟨hcz17_0, hcz17_1, hfz17_0, hfz17_1⟩ := kc2 BK1
    go_wp2_with (first | ((with_reducible refine gate_callee (f := 62) rfl ?_); refine goK (some 25) Try.func62 #[.int .i64 a0, .int .i64 (wrap64 ((Int.tmod a1 8) + 2)), .agg #[.int .i64 a2_0, .int .i64 a2_1]] ?_; (with_reducible refine (spec_pzValue.calls a0 (wrap64 ((Int.tmod a1 8) + 2)) a2_0 a2_1 t147 _ A15.out).mono ?_); rintro e w18 ⟨rfl, hb⟩; refine ⟨_, rfl, ?_⟩; refine mv2 hb BK1 BK2 ?_; clear BK1 BK2; intro BK1 BK2; replace HB := kw HB hb; (try clear hb); obtain ⟨hcz19_0, hcz19_1, hcz19_2, hfz19_0, hfz19_1, hfz19_2⟩ := kc3 BK2))
    refine bodyPost_ret (results_cell_row rfl _ _ gb2 28 #[.int .i64 a0, .int .i64 (wrap64 ((Int.tmod a1 8) + 2)), .int .i64 t147] (0, 0) _ rfl (bt BK2) Try.underlying28 rfl (by kernel_rfl)) rfl ?_
    exact ⟨eqR, bw HB⟩
   have c14b0 : (a0 == 3) = false := beq_eq_false_iff_ne.mpr c14
   have c14b1 : (a0 != 3) = true := bne_iff_ne.mpr c14
   replace H := bindS H; obtain ⟨t148, A20, H⟩ := H
   simp only [Option.some.injEq, Prod.mk.injEq] at H
   obtain ⟨rfl, rfl, rfl⟩ := H
   have hnb21 := up1 NB1_2
   obtain ⟨hcz22_0, hcz22_1, hfz22_0, hfz22_1⟩ := kc2 BK1
   go_wp2_with (first | ((with_reducible refine gate_callee (f := 62) rfl ?_); refine goK (some 25) Try.func62 #[.int .i64 a0, .int .i64 0, .agg #[.int .i64 a2_0, .int .i64 a2_1]] ?_; (with_reducible refine (spec_pzValue.calls a0 0 a2_0 a2_1 t148 _ A20.out).mono ?_); rintro e w23 ⟨rfl, hb⟩; refine ⟨_, rfl, ?_⟩; refine mv2 hb BK1 BK2 ?_; clear BK1 BK2; intro BK1 BK2; replace HB := kw HB hb; (try clear hb); obtain ⟨hcz24_0, hcz24_1, hcz24_2, hfz24_0, hfz24_1, hfz24_2⟩ := kc3 BK2))
   refine bodyPost_ret (results_cell_row rfl _ _ gb2 28 #[.int .i64 a0, .int .i64 0, .int .i64 t148] (0, 0) _ rfl (bt BK2) Try.underlying28 rfl (by kernel_rfl)) rfl ?_
   exact ⟨eqR, bw HB⟩

/-! ### spec_MakePuzzle: function 6 -/
mutual
def spec_MakePuzzle.j0 : Nat → Int → Int → Bool → Int → Int → Option ((List (S28)) × Bool)
  | 0, _, _, _, _, _ => none
  | k + 1, x1, x2, x23, x150000, x150001 => if x23 = true then (some (([] : List (S28)), false)) else (spec_MakePuzzle.l0 k x1 x2 x150000 x150001 ([] : List (S28)))
def spec_MakePuzzle.l0 : Nat → Int → Int → Int → Int → List (S28) → Option ((List (S28)) × Bool)
  | 0, _, _, _, _, _ => none
  | k + 1, x1, x9, x150000, x150001, x155000 => if x1 > 0 then ((spec_pzNext.f x9).bind fun t155 => ((spec_pzNext.f t155).bind fun t156 => ((spec_pzOf.f k (Int.tmod t155 5) t156 x150000 x150001).bind fun bt157 => (if x155000.length < 5864062014805 then (spec_MakePuzzle.l0 k (wrap64 (x1 - 1)) t156 x150000 x150001 (x155000 ++ [(⟨bt157.1, bt157.2.1, bt157.2.2⟩ : S28)])) else (none))))) else (some (x155000, true))
end
def spec_MakePuzzle.f (k : Nat) (a0_0 : Int) (a0_1 : Int) (a1 : Int) (a2 : Int) : Option ((List (S28)) × Bool) := (spec_pzHidden.f a0_0 a0_1).bind fun t151 => (if t151 = true then ((spec_l1In.f a1 0 6).bind fun t152 => (if t152 = true then ((spec_l1In.f a2 0 9999).bind fun t153 => (spec_MakePuzzle.j0 k a1 a2 (!t153) a0_0 a0_1)) else (spec_MakePuzzle.j0 k a1 a2 true a0_0 a0_1))) else (spec_MakePuzzle.j0 k a1 a2 true a0_0 a0_1))
def spec_MakePuzzle.T10 : Bool × List (List Nat × List Nat) := (true, [([], []), ([0], [0]), ([], []), ([], []), ([], []), ([2, 3, 4], [2, 3, 4]), ([5], [5]), ([1, 6, 5], [1, 6]), ([0, 1, 2, 3, 4, 5, 6, 7], []), ([8, 7, 7, 0, 1, 2, 3, 4, 5, 6, 7], [7, 8])])
def spec_MakePuzzle.B10 : List Nat := [0, 1, 0, 0, 0, 28, 60, 127, 255, 511]
theorem spec_MakePuzzle.tab10 : rtab .any (opsOf Try.f6 10) = spec_MakePuzzle.T10 := by kernel_rfl
theorem spec_MakePuzzle.bits10 : waitsOk spec_MakePuzzle.T10.2 spec_MakePuzzle.B10 = true := by kernel_rfl
set_option maxHeartbeats 8000000 in
set_option maxRecDepth 100000 in
theorem spec_MakePuzzle.calls (k : Nat) (a0_0 : Int) (a0_1 : Int) (a1 : Int) (a2 : Int) (r1 : List (S28)) (r2 : Bool) (w : World) (h : spec_MakePuzzle.f k a0_0 a0_1 a1 a2 = some (r1, r2)) :
    Calls Try.prog 6 #[.agg #[.int .i64 a0_0, .int .i64 a0_1], .int .i64 a1, .int .i64 a2] w fun e w' => ∃ v0_ : Value, e = .returned (.tuple #[.agg #[v0_], .bool r2]) ∧ Kd.R k28 28 w' w.heap.size (fun _ => True) v0_ r1 ∧ Below w.heap.size w w' := by
 have hu23 := Try.underlying23
 have hu26 := Try.underlying26
 have HB := Aside0.mk (Below.refl w.heap.size w)
 have H : ((spec_pzHidden.f a0_0 a0_1).bind fun t151 => (if t151 = true then ((spec_l1In.f a1 0 6).bind fun t152 => (if t152 = true then ((spec_l1In.f a2 0 9999).bind fun t153 => (spec_MakePuzzle.j0 k a1 a2 (!t153) a0_0 a0_1)) else (spec_MakePuzzle.j0 k a1 a2 true a0_0 a0_1))) else (spec_MakePuzzle.j0 k a1 a2 true a0_0 a0_1))) = some (r1, r2) := h
 clear h
 have HC4 := Aside0.mk H
 clear H
 go_enter Try.func6, Try.ntmps6
 go_upto_region 1 with (first | ((with_reducible refine gate_dst (N := 3) rfl ?_); refine boxK HB (N := 3) (cs := #[.int .i64 a0_0, .int .i64 a0_1]) (t := 23) (h := ?_); clear HB; intro gb1 hg w5 BK1 GW1 GE1 HB hb; clear hb hg) | ((with_reducible refine gate_dst (N := 6) rfl ?_); refine boxK HB (N := 6) (cs := #[.slice none 0 0]) (t := 26) (h := ?_); clear HB; intro gb2 hg w6 BK2 GW2 GE2 HB hb; obtain ⟨NB1_2, NB2_1⟩ := nv1 hg BK1; replace BK1 := kb BK1 hb; clear hb hg))
 (try simp only [Act.put, List.setIfInBounds_toArray, List.set_cons_zero, List.set_cons_succ])
 go_cut [23] (fun v23 wc => ∃ (kq : Nat) (x23_3 : Bool), v23 = .bool x23_3 ∧ Aside0 (spec_MakePuzzle.j0 kq a1 a2 x23_3 a0_0 a0_1 = some (r1, r2)) ∧ Aside0 (kq ≤ k) ∧ Aside0 (wc.heap[gb1]? = some (.cells #[.int .i64 a0_0, .int .i64 a0_1] 23 (0, 0))) ∧ Aside0 (wc.heap[gb2]? = some (.cells #[(.slice none 0 0)] 26 (0, 0))) ∧ Aside0 (Below w.heap.size w wc))
 case first =>
  have H := HC4.out
  clear HC4
  replace H := bindS H; obtain ⟨t151, A7, H⟩ := H
  replace H := iteB H; rcases H with ⟨rfl, H⟩ | ⟨rfl, H⟩
  rotate_left
  ·
   have H' := Aside0.mk H
   clear H
   have hnb18 := up1 NB1_2
   obtain ⟨hcz19_0, hcz19_1, hfz19_0, hfz19_1⟩ := kc2 BK1
   go_wp2_with (first | ((with_reducible refine gate_callee (f := 35) rfl ?_); refine goK (some 12) Try.func35 #[.agg #[.int .i64 a0_0, .int .i64 a0_1]] ?_; (with_reducible refine (spec_pzHidden.calls a0_0 a0_1 false _ A7.out).mono ?_); rintro e w20 ⟨rfl, hb⟩; refine ⟨_, rfl, ?_⟩; refine mv2 hb BK1 BK2 ?_; clear BK1 BK2; intro BK1 BK2; replace HB := kw HB hb; (try clear hb)))
   go_meet
   case rel => exact ⟨_, (true), (by first | rfl | (simp; done) | (simp [*]; done)), H', ⟨by first | omega | exact Nat.le_refl _⟩, ⟨bk BK1⟩, ⟨bk BK2⟩, ⟨bw HB⟩⟩
  replace H := bindS H; obtain ⟨t152, A9, H⟩ := H
  replace H := iteB H; rcases H with ⟨rfl, H⟩ | ⟨rfl, H⟩
  ·
   replace H := bindS H; obtain ⟨t153, A11, H⟩ := H
   have H' := Aside0.mk H
   clear H
   have hnb12 := up1 NB1_2
   obtain ⟨hcz13_0, hcz13_1, hfz13_0, hfz13_1⟩ := kc2 BK1
   go_wp2_with (first | ((with_reducible refine gate_callee (f := 35) rfl ?_); refine goK (some 12) Try.func35 #[.agg #[.int .i64 a0_0, .int .i64 a0_1]] ?_; (with_reducible refine (spec_pzHidden.calls a0_0 a0_1 true _ A7.out).mono ?_); rintro e w14 ⟨rfl, hb⟩; refine ⟨_, rfl, ?_⟩; refine mv2 hb BK1 BK2 ?_; clear BK1 BK2; intro BK1 BK2; replace HB := kw HB hb; (try clear hb)) | (go_at_call 36; (with_reducible refine (spec_l1In.calls a1 0 6 true _ A9.out).mono ?_); rintro e w' ⟨rfl, ⟨nd, rfl⟩⟩) | (go_at_call 36; (with_reducible refine (spec_l1In.calls a2 0 9999 t153 _ A11.out).mono ?_); rintro e w' ⟨rfl, ⟨nd, rfl⟩⟩))
   go_meet
   case rel => exact ⟨_, (!t153), (by first | rfl | (simp; done) | (simp [*]; done)), H', ⟨by first | omega | exact Nat.le_refl _⟩, ⟨bk BK1⟩, ⟨bk BK2⟩, ⟨bw HB⟩⟩
  have H' := Aside0.mk H
  clear H
  have hnb15 := up1 NB1_2
  obtain ⟨hcz16_0, hcz16_1, hfz16_0, hfz16_1⟩ := kc2 BK1
  go_wp2_with (first | ((with_reducible refine gate_callee (f := 35) rfl ?_); refine goK (some 12) Try.func35 #[.agg #[.int .i64 a0_0, .int .i64 a0_1]] ?_; (with_reducible refine (spec_pzHidden.calls a0_0 a0_1 true _ A7.out).mono ?_); rintro e w17 ⟨rfl, hb⟩; refine ⟨_, rfl, ?_⟩; refine mv2 hb BK1 BK2 ?_; clear BK1 BK2; intro BK1 BK2; replace HB := kw HB hb; (try clear hb)) | (go_at_call 36; (with_reducible refine (spec_l1In.calls a1 0 6 false _ A9.out).mono ?_); rintro e w' ⟨rfl, ⟨nd, rfl⟩⟩))
  go_meet
  case rel => exact ⟨_, (true), (by first | rfl | (simp; done) | (simp [*]; done)), H', ⟨by first | omega | exact Nat.le_refl _⟩, ⟨bk BK1⟩, ⟨bk BK2⟩, ⟨bw HB⟩⟩
 case rest =>
  clear HC4
  obtain ⟨kq, x23_3, rfl, HA, HJ3, BK1, BK2, HB⟩ := hcut
  cases kq with
  | zero => exact absurd HA.out (by simp [spec_MakePuzzle.j0])
  | succ kj3 =>
   have H := HA.out
   clear HA
   simp only [spec_MakePuzzle.j0] at H
   replace H := iteB H; rcases H with ⟨rfl, H⟩ | ⟨rfl, H⟩
   ·
    simp only [Option.some.injEq, Prod.mk.injEq] at H
    obtain ⟨rfl, rfl⟩ := H
    have hnb22 := up1 NB2_1
    obtain ⟨hcz23_0, hfz23_0⟩ := kc1 BK2
    go_wp2
    refine bodyPost_ret (results_ct rfl _ _ gb2 26 #[.slice none 0 0] (0, 0) _ rfl (bt BK2) Try.underlying26 rfl (by kernel_rfl)) rfl ?_
    exact ⟨_, eqR, by first | exact Kd.R_nil _ _ _ _ _ | exact Kd.N_nil _ _ _ _ _ | exact Kd.V_nil _ _ _ _ _ | exact Kd.Q_nil _ _ _ _ _ | exact Kd.S_nil _ _ _ _ _, bw HB⟩
   have H' := Aside0.mk H
   clear H
   go_wp2_with (first | ((with_reducible refine gate_dst (N := 8) rfl ?_); refine boxK HB (N := 8) (cs := #[.slice none 0 0]) (t := 26) (h := ?_); clear HB; intro gb3 hg w24 BK3 GW3 GE3 HB hb; obtain ⟨NB1_3, NB3_1, NB2_3, NB3_2⟩ := nv2 hg BK1 BK2; refine mv2 hb BK1 BK2 ?_; clear BK1 BK2; intro BK1 BK2; clear hb hg))
   go_loopg [1, 9] kj3 (fun kq v1 v9 w' => ∃ (x1_2 : Int) (x9_2 : Int) (x155000_2 : List (S28)) (u155000 : Value), v1 = .int .i64 x1_2 ∧ v9 = .int .i64 x9_2 ∧ Aside0 (spec_MakePuzzle.l0 kq x1_2 x9_2 a0_0 a0_1 x155000_2 = some (r1, r2)) ∧ Aside0 (kq ≤ kj3) ∧ Aside0 (Kd.R k28 28 w' w.heap.size (fun _ => True) u155000 x155000_2) ∧ Aside0 (w'.heap[gb1]? = some (.cells #[.int .i64 a0_0, .int .i64 a0_1] 23 (0, 0))) ∧ Aside0 (w'.heap[gb2]? = some (.cells #[(.slice none 0 0)] 26 (0, 0))) ∧ Aside0 (w'.heap[gb3]? = some (.cells #[u155000] 26 (0, 0))) ∧ Aside0 (Below w.heap.size w w'))
   case atStart => exact ⟨(a1), (a2), (([] : List (S28))), (.slice none 0 0), (by first | rfl | (simp; done) | (simp [*]; done)), (by first | rfl | (simp; done) | (simp [*]; done)), H', ⟨Nat.le_refl _⟩, ⟨by first | exact Kd.R_nil _ _ _ _ _ | exact Kd.N_nil _ _ _ _ _ | exact Kd.V_nil _ _ _ _ _ | exact Kd.Q_nil _ _ _ _ _ | exact Kd.S_nil _ _ _ _ _⟩, ⟨bk BK1⟩, ⟨bk BK2⟩, ⟨bk BK3⟩, ⟨bw HB⟩⟩
   case round =>
    clear H'
    obtain ⟨x1_2, x9_2, x155000_2, u155000, rfl, rfl, HA, HK2, HO_155000, BK1, BK2, BK3, HB⟩ := hrel
    cases gk with
    | zero => exact absurd HA.out (by simp [spec_MakePuzzle.l0])
    | succ k2 =>
     have H := HA.out
     clear HA
     simp only [spec_MakePuzzle.l0] at H
     replace H := iteC H; rcases H with ⟨c25, H⟩ | ⟨c25, H⟩
     rotate_left
     ·
      have c25b0 : decide (0 < x1_2) = false := decide_eq_false c25
      clear c25
      simp only [Option.some.injEq, Prod.mk.injEq] at H
      obtain ⟨rfl, rfl⟩ := H
      have hnb35 := up2 NB3_1 NB3_2
      obtain ⟨hcz37_0, hfz37_0⟩ := kc1 BK3
      obtain ⟨Ao38, co38, eo38⟩ := Kd.R_slice HO_155000.out
      subst eo38
      have hnb39 := up1 NB2_1
      obtain ⟨hcz40_0, hfz40_0⟩ := kc1 BK2
      go_wp2
      refine bodyPost_ret (results_ct rfl _ _ gb2 26 #[.slice Ao38 x155000_2.length co38] (0, 0) _ rfl (bt BK2) Try.underlying26 rfl (by kernel_rfl)) rfl ?_
      exact ⟨_, eqR, by (with_reducible repeat (first | apply Kd.R_alloc | apply Kd.R_drewN | apply Kd.R_drew)); exact Kd.R_mono (Kd.R_far (p := ⟨gb2, 0, none⟩) (Kd.R_types HO_155000.out BK2.out (by decide)) (fun _ hk => hk.2) (.slice Ao38 x155000_2.length co38)) (fun _ hk => trivial), bw HB⟩
     have c25b0 : decide (0 < x1_2) = true := decide_eq_true c25
     clear c25
     replace H := bindS H; obtain ⟨t155, A26, H⟩ := H
     replace H := bindS H; obtain ⟨t156, A27, H⟩ := H
     replace H := bindS H; obtain ⟨⟨t157, t158, t159⟩, A28, H⟩ := H
     replace H := iteS H; obtain ⟨c29, H⟩ := H
     have LMc29 := Aside0.mk c29
     clear c29
     obtain ⟨y160, hy160⟩ : ∃ y_ : List (S28), y_ = (x155000_2 ++ [(⟨t157, t158, t159⟩ : S28)]) := ⟨_, rfl⟩
     replace H : (spec_MakePuzzle.l0 k2 (wrap64 (x1_2 - 1)) t156 a0_0 a0_1 y160) = some (r1, r2) := by first | (rw [hy160]; with_reducible exact H) | (have H2_ := (Option.bind_some _ _).symm.trans H; first | (rw [hy160]; with_reducible exact H2_) | with_reducible exact H2_) | with_reducible exact H | (rw [hy160]; exact H) | exact H
     have Ny160 := Aside0.mk hy160
     clear hy160
     have H' := Aside0.mk H
     clear H
     try go_wp2_with (first | ((with_reducible refine gate_callee (f := 37) rfl ?_); refine goK (some 31) Try.func37 #[.int .i64 x9_2] ?_; (with_reducible refine (spec_pzNext.calls x9_2 t155 _ A26.out).mono ?_); rintro e w' ⟨rfl, ⟨nd, rfl⟩⟩; refine ⟨_, rfl, ?_⟩; (try (rw [drewN_self wr]; generalize hq_ : World.drewN wr _ = wr; have n0_ : Aside0 (Kd.R k28 28 wr w.heap.size (fun _ => True) u155000 x155000_2) := ⟨by rw [← hq_]; exact (ro HO_155000)⟩; have n1_ : Aside0 (wr.heap[gb1]? = some (.cells #[.int .i64 a0_0, .int .i64 a0_1] 23 (0, 0))) := ⟨by rw [← hq_]; exact (bk BK1)⟩; have n2_ : Aside0 (wr.heap[gb2]? = some (.cells #[.slice none 0 0] 26 (0, 0))) := ⟨by rw [← hq_]; exact (bk BK2)⟩; have n3_ : Aside0 (wr.heap[gb3]? = some (.cells #[u155000] 26 (0, 0))) := ⟨by rw [← hq_]; exact (bk BK3)⟩; have n4_ : Aside0 (Below w.heap.size w wr) := ⟨by rw [← hq_]; exact (bw HB)⟩; clear HO_155000 BK1 BK2 BK3 HB hq_; have HO_155000 := n0_; have BK1 := n1_; have BK2 := n2_; have BK3 := n3_; have HB := n4_; clear n0_ n1_ n2_ n3_ n4_))) | ((with_reducible refine gate_callee (f := 37) rfl ?_); refine goK (some 35) Try.func37 #[.int .i64 t155] ?_; (with_reducible refine (spec_pzNext.calls t155 t156 _ A27.out).mono ?_); rintro e w' ⟨rfl, ⟨nd, rfl⟩⟩; refine ⟨_, rfl, ?_⟩; (try (rw [drewN_self wr]; generalize hq_ : World.drewN wr _ = wr; have n0_ : Aside0 (Kd.R k28 28 wr w.heap.size (fun _ => True) u155000 x155000_2) := ⟨by rw [← hq_]; exact (ro HO_155000)⟩; have n1_ : Aside0 (wr.heap[gb1]? = some (.cells #[.int .i64 a0_0, .int .i64 a0_1] 23 (0, 0))) := ⟨by rw [← hq_]; exact (bk BK1)⟩; have n2_ : Aside0 (wr.heap[gb2]? = some (.cells #[.slice none 0 0] 26 (0, 0))) := ⟨by rw [← hq_]; exact (bk BK2)⟩; have n3_ : Aside0 (wr.heap[gb3]? = some (.cells #[u155000] 26 (0, 0))) := ⟨by rw [← hq_]; exact (bk BK3)⟩; have n4_ : Aside0 (Below w.heap.size w wr) := ⟨by rw [← hq_]; exact (bw HB)⟩; clear HO_155000 BK1 BK2 BK3 HB hq_; have HO_155000 := n0_; have BK1 := n1_; have BK2 := n2_; have BK3 := n3_; have HB := n4_; clear n0_ n1_ n2_ n3_ n4_))))
     replace HO_155000 := od HO_155000
     refine md3 BK1 BK2 BK3 ?_
     clear BK1 BK2 BK3
     intro BK1 BK2 BK3
     replace HB := Aside0.mk (below_drew1 HB.out)
     refine start_ (n := 10) (S := fun w' => w'.cell? ⟨gb3, 0, none⟩ = some (u155000) ∧ w'.cell? ⟨gb1, 0, none⟩ = some (.int .i64 a0_0) ∧ w'.cell? ⟨gb1, 1, none⟩ = some (.int .i64 a0_1)) (ds := [9]) #[false, false, false, false, false, false, false, false, false, false] (by kernel_rfl) rfl rfl ⟨bc BK3 0, bc BK1 0, bc BK1 1⟩ (fun hHeld => ?_); refine with_tabW spec_MakePuzzle.tab10 spec_MakePuzzle.bits10 (fun HT_ HW_ => ?_)
     generalize wr.drew = w30 at HO_155000 BK1 BK2 BK3 HB hHeld ⊢
     refine pureK HT_ 0 (some 36) ?_
     refine pureK HT_ 2 (some 38) ?_
     refine pureK HT_ 3 (some 39) ?_
     refine takeK HT_ HW_ hHeld 1 (some 37) ?_
     refine takeK HT_ HW_ hHeld 4 (some 40) ?_
     refine oneK HT_ 5 (some 41) (fun K hK => ?_)
     refine goes_ Try.func38 (by kernel_rfl) rfl #[.int .i64 (Int.tmod t155 5), .int .i64 t156, .agg #[.int .i64 a0_0, .int .i64 a0_1]] (by rfl) rfl rfl argR ?_
     with_reducible refine (spec_pzOf.calls k2 (Int.tmod t155 5) t156 a0_0 a0_1 t157 t158 t159 _ A28.out).mono ?_
     rintro e w31 ⟨rfl, hb⟩
     refine ⟨_, rfl, ?_⟩
     replace HO_155000 := ko HO_155000 hb
     refine mv3 hb BK1 BK2 BK3 ?_
     clear BK1 BK2 BK3
     intro BK1 BK2 BK3
     replace HB := kw HB hb
     (try clear hb)
     (try clear hb2)
     (try clear hk)
     (try clear hi)
     refine hK.out _ _ ⟨bc BK3 0, bc BK1 0, bc BK1 1⟩ (fun hHeld => ?_)
     clear hK K
     refine normK (N := some 41) (h := ?_)
     refine oneK HT_ 6 (some 42) (fun K hK => ?_)
     refine value_ (w1 := ?_) (v := ?_) (by rfl) rfl ?_ ?_
     rotate_left 2
     ·
      go_simp
      constructor
      · rfl
      rfl
     refine hK.out _ _ ⟨(blk_cell (blk_alloc BK3.out _) 0).trans rfl, (blk_cell (blk_alloc BK1.out _) 0).trans rfl, (blk_cell (blk_alloc BK1.out _) 1).trans rfl⟩ (fun hHeld => ?_)
     clear hK K
     refine normK (N := some 42) (h := ?_)
     refine oneK HT_ 7 (some 43) (fun K hK => ?_)
     refine Kd.R_append_step k28 (w0 := w) w.heap.size (by rfl) (.tmp 37) (.tmp 42) 24 28 (.agg #[(.int .i64 0), (.int .i64 0), (.int .i64 0)]) 24 rfl Try.underlying24 info28 rfl (by decide) (by omega) u155000 x155000_2 (⟨t157, t158, t159⟩ : S28) [.int .i64 t157, .int .i64 t158, .int .i64 t159] (fun _ => True) (fun _ => False) rfl rfl ?aP (fun _ hk => hk.elim) ?aF ?aO ?aB ?aS ?aL ?_
     (case aP => exact k28_mkM _ _ _ (⟨t157, t158, t159⟩ : S28))
     (case aB => exact (bw HB))
     (case aF => exact (fun _ _ => trivial))
     (case aO => exact (ro HO_155000))
     (case aS => exact (below_size (bw HB)))
     (case aL => have := LMc29.out; omega)
     intro v161 w32 ho hb hg hat
     rw [← Ny160.out] at ho
     replace BK1 := Aside0.mk (blk_grown (bk BK1) hg (Kd.R_ne HO_155000.out BK1.out (by decide)))
     replace BK2 := Aside0.mk (blk_grown (bk BK2) hg (Kd.R_ne HO_155000.out BK2.out (by decide)))
     replace BK3 := Aside0.mk (blk_grown (bk BK3) hg (Kd.R_ne HO_155000.out BK3.out (by decide)))
     replace HB := Aside0.mk (hb)
     have HO162 := Aside0.mk (ho)
     clear HO_155000
     clear ho hb hg hat
     obtain ⟨Ao33, co33, eo33⟩ := Kd.R_slice HO162.out
     (first | subst eo33 | (injection eo33 with f1_ f2_ f3_; have f4_ := f1_.symm; have f5_ := f3_.symm; clear f1_ f2_ f3_; subst f4_; subst f5_))
     refine hK.out _ _ ⟨bc BK3 0, bc BK1 0, bc BK1 1⟩ (fun hHeld => ?_)
     clear hK K
     refine normK (N := some 43) (h := ?_)
     refine pureK HT_ 8 (some 44) ?_
     refine last_ (i := 9) (N := none) #[true, true, true, true, true, true, true, true, true, true] rfl rfl (one_of HT_.out (by kernel_rfl)) (by decide) (fun K hK => ?_)
     have hs34 : w32.cell? ⟨gb3, 0, none⟩ = some (u155000) := bc BK3 0
     have hfs34 := blk_frozen BK3.out 0
     have hns34_0 := NB1_3.out
     have hns34_1 := NB2_3.out
     have hms34_0 := NB3_1.out
     have hms34_1 := NB3_2.out
     refine skip_ (w1 := ?_) (by rfl) rfl ?_ ?_
     rotate_left
     ·
      go_simp
      rfl
     refine hK.out _ _ ?_
     clear hK K
     refine done_ (done_of HT_.out (by kernel_rfl)) ?_
     try go_wp2
     go_roundg k2
     case measure => have := HJ3.out; have := HK2.out; omega
     case rel => exact ⟨(wrap64 (x1_2 - 1)), (t156), (y160), (.slice Ao33 y160.length co33), (by first | rfl | (simp; done) | (simp [*]; done)), (by first | rfl | (simp; done) | (simp [*]; done)), H', ⟨by have := HJ3.out; have := HK2.out; omega⟩, ⟨by (with_reducible repeat (first | apply Kd.R_alloc | apply Kd.R_drewN | apply Kd.R_drew)); exact Kd.R_mono (Kd.R_far (p := ⟨gb3, 0, none⟩) (Kd.R_types HO162.out BK3.out (by decide)) (fun _ hk => hk.2) (.slice Ao33 y160.length co33)) (fun _ hk => trivial)⟩, ⟨bf BK1 NB1_3⟩, ⟨bf BK2 NB2_3⟩, ⟨bt BK3⟩, ⟨bw HB⟩⟩

/-! ### laws_qClues: function 7 -/
def laws_qClues.l0 : Nat → List (S28) → List (S28) → Int → Int → Option (Bool)
  | 0, _, _, _, _ => none
  | k + 1, x0, x1, x12, x13 => if x13 < x12 then (if 0 ≤ x13 then (if x13 < (x0.length : Int) then (if x13 < (x1.length : Int) then (if (!(((rd_T28 x0 x13).f0) == ((rd_T28 x1 x13).f0)) || (!(((rd_T28 x0 x13).f1) == ((rd_T28 x1 x13).f1)) || (!(((rd_T28 x0 x13).f2) == ((rd_T28 x1 x13).f2))))) = true then (some false) else (laws_qClues.l0 k x0 x1 x12 (wrap64 (x13 + 1)))) else (none)) else (none)) else (none)) else (some true)
def laws_qClues.f (k : Nat) (l0 : List (S28)) (l1 : List (S28)) : Option (Bool) := if (l0.length : Int) = (l1.length : Int) then (laws_qClues.l0 k l0 l1 (l0.length : Int) 0) else (some false)
set_option maxHeartbeats 8000000 in
set_option maxRecDepth 100000 in
theorem laws_qClues.calls (k : Nat) (A0 : Option Addr) (c0 : Nat) (l0 : List (S28)) (A1 : Option Addr) (c1 : Nat) (l1 : List (S28)) (r : Bool) (w : World) (hr0 : Kd.C k28 w A0 l0.length l0) (hc0 : l0.length ≤ c0) (hr1 : Kd.C k28 w A1 l1.length l1) (hc1 : l1.length ≤ c1) (h : laws_qClues.f k l0 l1 = some r) :
    Calls Try.prog 7 #[.slice A0 l0.length c0, .slice A1 l1.length c1] w fun e w' => e = .returned (.bool r) ∧ Drawn0 w w' := by
 have hu28 := Try.underlying28
 have HR0 := Aside0.mk hr0
 have HC0 := Aside0.mk hc0
 clear hr0 hc0
 have HR1 := Aside0.mk hr1
 have HC1 := Aside0.mk hc1
 clear hr1 hc1
 have H : (if (l0.length : Int) = (l1.length : Int) then (laws_qClues.l0 k l0 l1 (l0.length : Int) 0) else (some false)) = some r := h
 clear h
 replace H := iteC H; rcases H with ⟨c3, H⟩ | ⟨c3, H⟩
 rotate_left
 ·
  have c3b0 : ((l0.length : Int) == (l1.length : Int)) = false := beq_eq_false_iff_ne.mpr c3
  have c3b1 : ((l0.length : Int) != (l1.length : Int)) = true := bne_iff_ne.mpr c3
  have c3b2 : (l0.length == l1.length) = false := by first | simpa using c3 | (simp at c3 ⊢; omega)
  obtain rfl := Option.some.inj H
  go_enter Try.func7, Try.ntmps7
  go_wp2
  repeat (go_quiet (fail); try go_wp2)
  go_ret
  exact ⟨by first | rfl | (simp; done) | (simp [*]; done), by repeat (first | exact Drawn0.refl _ | apply Drawn0.step)⟩
 have c3b0 : ((l0.length : Int) == (l1.length : Int)) = true := beq_iff_eq.mpr c3
 have c3b1 : ((l0.length : Int) != (l1.length : Int)) = false := bne_eq_false_iff_eq.mpr c3
 have c3b2 : (l0.length == l1.length) = true := by first | simpa using c3 | (simp at c3 ⊢; omega)
 clear c3
 have H' := Aside0.mk H
 clear H
 go_enter Try.func7, Try.ntmps7
 go_wp2
 repeat (go_quiet (fail); try go_wp2)
 go_loopg [13] k (fun kq v13 w' => ∃ (x13_1 : Int), v13 = .int .i64 x13_1 ∧ Aside0 (laws_qClues.l0 kq l0 l1 (l0.length : Int) x13_1 = some r) ∧ Aside0 (kq ≤ k) ∧ Drawn0 w w')
 case atStart => exact ⟨(0), (by first | rfl | (simp; done) | (simp [*]; done)), H', ⟨Nat.le_refl _⟩, by repeat (first | exact Drawn0.refl _ | apply Drawn0.step)⟩
 case round =>
  clear H'
  try clear c1
  try clear c3
  try clear c3b0
  try clear c3b1
  try clear c3b2
  obtain ⟨x13_1, rfl, HA, HK1, ⟨m1, rfl⟩⟩ := hrel
  cases gk with
  | zero => exact absurd HA.out (by simp [laws_qClues.l0])
  | succ k1 =>
   have H := HA.out
   clear HA
   simp only [laws_qClues.l0] at H
   replace H := iteC H; rcases H with ⟨c4, H⟩ | ⟨c4, H⟩
   rotate_left
   ·
    have c4b0 : decide (x13_1 < (l0.length : Int)) = false := decide_eq_false c4
    clear c4
    obtain rfl := Option.some.inj H
    go_wp2
    repeat (go_quiet (fail); try go_wp2)
    go_ret
    exact ⟨by first | rfl | (simp; done) | (simp [*]; done), by repeat (first | exact Drawn0.refl _ | apply Drawn0.step)⟩
   have c4b0 : decide (x13_1 < (l0.length : Int)) = true := decide_eq_true c4
   clear c4
   replace H := iteS H; obtain ⟨c5, H⟩ := H
   have c5b0 : decide (0 ≤ x13_1) = true := decide_eq_true c5
   clear c5
   replace H := iteS H; obtain ⟨c6, H⟩ := H
   have c6b0 : decide (x13_1 < (l0.length : Int)) = true := decide_eq_true c6
   clear c6
   replace H := iteS H; obtain ⟨c7, H⟩ := H
   have c7b0 : decide (x13_1 < (l1.length : Int)) = true := decide_eq_true c7
   clear c7
   replace H := iteC H; rcases H with ⟨c8, H⟩ | ⟨c8, H⟩
   ·
    have c8b0 : (!(((rd_T28 l0 x13_1).f0) == ((rd_T28 l1 x13_1).f0)) || (!(((rd_T28 l0 x13_1).f1) == ((rd_T28 l1 x13_1).f1)) || (!(((rd_T28 l0 x13_1).f2) == ((rd_T28 l1 x13_1).f2))))) = true := c8
    clear c8
    obtain rfl := Option.some.inj H
    have p163 : 0 ≤ (x13_1 : Int) := of_decide_eq_true (by first | (with_reducible assumption) | assumption)
    have q163 : x13_1 < (l0.length : Int) := of_decide_eq_true (by first | (with_reducible assumption) | assumption)
    obtain ⟨ad163, e163, hx163_0, hx163_1, hx163_2⟩ := at_T28 HR0.out x13_1 p163 q163
    cases e163
    replace p163 := eq_true p163
    replace q163 := eq_true q163
    have p164 : 0 ≤ (x13_1 : Int) := of_decide_eq_true (by first | (with_reducible assumption) | assumption)
    have q164 : x13_1 < (l1.length : Int) := of_decide_eq_true (by first | (with_reducible assumption) | assumption)
    obtain ⟨ad164, e164, hx164_0, hx164_1, hx164_2⟩ := at_T28 HR1.out x13_1 p164 q164
    cases e164
    replace p164 := eq_true p164
    replace q164 := eq_true q164
    go_wp2
    repeat (go_quiet (fail); try go_wp2)
    go_ret
    exact ⟨by first | rfl | (simp; done) | (simp [*]; done), by repeat (first | exact Drawn0.refl _ | apply Drawn0.step)⟩
   have c8b0 : (!(((rd_T28 l0 x13_1).f0) == ((rd_T28 l1 x13_1).f0)) || (!(((rd_T28 l0 x13_1).f1) == ((rd_T28 l1 x13_1).f1)) || (!(((rd_T28 l0 x13_1).f2) == ((rd_T28 l1 x13_1).f2))))) = false := by simpa using c8
   clear c8
   have H' := Aside0.mk H
   clear H
   have p163 : 0 ≤ (x13_1 : Int) := of_decide_eq_true (by first | (with_reducible assumption) | assumption)
   have q163 : x13_1 < (l0.length : Int) := of_decide_eq_true (by first | (with_reducible assumption) | assumption)
   obtain ⟨ad163, e163, hx163_0, hx163_1, hx163_2⟩ := at_T28 HR0.out x13_1 p163 q163
   cases e163
   replace p163 := eq_true p163
   replace q163 := eq_true q163
   have p164 : 0 ≤ (x13_1 : Int) := of_decide_eq_true (by first | (with_reducible assumption) | assumption)
   have q164 : x13_1 < (l1.length : Int) := of_decide_eq_true (by first | (with_reducible assumption) | assumption)
   obtain ⟨ad164, e164, hx164_0, hx164_1, hx164_2⟩ := at_T28 HR1.out x13_1 p164 q164
   cases e164
   replace p164 := eq_true p164
   replace q164 := eq_true q164
   go_wp2
   repeat (go_quiet (fail); try go_wp2)
   go_roundg k1
   case measure => have := HK1.out; omega
   case rel => exact ⟨(wrap64 (x13_1 + 1)), (by first | rfl | (simp; done) | (simp [*]; done)), H', ⟨by have := HK1.out; omega⟩, by repeat (first | exact Drawn0.refl _ | apply Drawn0.step)⟩

/-! ### impl_isWall: function 42 -/
def impl_isWall.f (a0 : Int) : Option (Bool) := (impl_within.f a0 1 1000000).bind fun t165 => (some t165)
set_option maxHeartbeats 8000000 in
set_option maxRecDepth 100000 in
theorem impl_isWall.calls (a0 : Int) (r : Bool) (w : World) (h : impl_isWall.f a0 = some r) :
    Calls Try.prog 42 #[.int .i64 a0] w fun e w' => e = .returned (.bool r) ∧ Drawn0 w w' := by
 have H : ((impl_within.f a0 1 1000000).bind fun t165 => (some t165)) = some r := h
 clear h
 replace H := bindS H; obtain ⟨t165, A2, H⟩ := H
 obtain rfl := Option.some.inj H
 go_enter Try.func42, Try.ntmps42
 go_wp2_with (first | ((with_reducible refine gate_callee (f := 33) rfl ?_); refine goK (some 4) Try.func33 #[.int .i64 a0, .int .i64 1, .int .i64 1000000] ?_; (with_reducible refine (impl_within.calls a0 1 1000000 t165 _ A2.out).mono ?_); rintro e w' ⟨rfl, ⟨nd, rfl⟩⟩; refine ⟨_, rfl, ?_⟩))
 go_ret
 exact ⟨by first | rfl | (simp; done) | (simp [*]; done), by repeat (first | exact Drawn0.refl _ | apply Drawn0.step)⟩

/-! ### impl_IsSnail: function 63 -/
def impl_IsSnail.f (a0_0 : Int) (a0_1 : Int) : Option (Bool) := (impl_within.f a0_0 1 1000).bind fun t167 => (if t167 = true then ((impl_within.f a0_1 0 1000).bind fun t168 => (some t168)) else (some false))
set_option maxHeartbeats 8000000 in
set_option maxRecDepth 100000 in
theorem impl_IsSnail.calls (a0_0 : Int) (a0_1 : Int) (r : Bool) (w : World) (h : impl_IsSnail.f a0_0 a0_1 = some r) :
    Calls Try.prog 63 #[.agg #[.int .i64 a0_0, .int .i64 a0_1]] w fun e w' => e = .returned (.bool r) ∧ Below w.heap.size w w' := by
 have hu23 := Try.underlying23
 have HB := Aside0.mk (Below.refl w.heap.size w)
 have H : ((impl_within.f a0_0 1 1000).bind fun t167 => (if t167 = true then ((impl_within.f a0_1 0 1000).bind fun t168 => (some t168)) else (some false))) = some r := h
 clear h
 replace H := bindS H; obtain ⟨t167, A2, H⟩ := H
 replace H := iteB H; rcases H with ⟨rfl, H⟩ | ⟨rfl, H⟩
 ·
  replace H := bindS H; obtain ⟨t168, A4, H⟩ := H
  obtain rfl := Option.some.inj H
  go_enter Try.func63, Try.ntmps63
  go_wp2_with (first | ((with_reducible refine gate_dst (N := 1) rfl ?_); refine boxK HB (N := 1) (cs := #[.int .i64 a0_0, .int .i64 a0_1]) (t := 23) (h := ?_); clear HB; intro gb1 hg w5 BK1 GW1 GE1 HB hb; clear hb hg; obtain ⟨hcz6_0, hcz6_1, hfz6_0, hfz6_1⟩ := kc2 BK1) | ((with_reducible refine gate_callee (f := 33) rfl ?_); refine goK (some 5) Try.func33 #[.int .i64 a0_0, .int .i64 1, .int .i64 1000] ?_; (with_reducible refine (impl_within.calls a0_0 1 1000 true _ A2.out).mono ?_); rintro e w' ⟨rfl, ⟨nd, rfl⟩⟩; refine ⟨_, rfl, ?_⟩) | (go_at_call 33; (with_reducible refine (impl_within.calls a0_1 0 1000 t168 _ A4.out).mono ?_); rintro e w' ⟨rfl, ⟨nd, rfl⟩⟩))
  go_ret
  exact ⟨eqR, bw HB⟩
 obtain rfl := Option.some.inj H
 go_enter Try.func63, Try.ntmps63
 go_wp2_with (first | ((with_reducible refine gate_dst (N := 1) rfl ?_); refine boxK HB (N := 1) (cs := #[.int .i64 a0_0, .int .i64 a0_1]) (t := 23) (h := ?_); clear HB; intro gb1 hg w7 BK1 GW1 GE1 HB hb; clear hb hg; obtain ⟨hcz8_0, hcz8_1, hfz8_0, hfz8_1⟩ := kc2 BK1) | ((with_reducible refine gate_callee (f := 33) rfl ?_); refine goK (some 5) Try.func33 #[.int .i64 a0_0, .int .i64 1, .int .i64 1000] ?_; (with_reducible refine (impl_within.calls a0_0 1 1000 false _ A2.out).mono ?_); rintro e w' ⟨rfl, ⟨nd, rfl⟩⟩; refine ⟨_, rfl, ?_⟩))
 go_ret
 exact ⟨eqR, bw HB⟩

/-! ### impl_isWalled: function 39 -/
def impl_isWalled.f (a0_0 : Int) (a0_1 : Int) (a1 : Int) : Option (Bool) := (impl_IsSnail.f a0_0 a0_1).bind fun t170 => (if t170 = true then ((impl_isWall.f a1).bind fun t171 => (some t171)) else (some false))
set_option maxHeartbeats 8000000 in
set_option maxRecDepth 100000 in
theorem impl_isWalled.calls (a0_0 : Int) (a0_1 : Int) (a1 : Int) (r : Bool) (w : World) (h : impl_isWalled.f a0_0 a0_1 a1 = some r) :
    Calls Try.prog 39 #[.agg #[.int .i64 a0_0, .int .i64 a0_1], .int .i64 a1] w fun e w' => e = .returned (.bool r) ∧ Below w.heap.size w w' := by
 have hu23 := Try.underlying23
 have HB := Aside0.mk (Below.refl w.heap.size w)
 have H : ((impl_IsSnail.f a0_0 a0_1).bind fun t170 => (if t170 = true then ((impl_isWall.f a1).bind fun t171 => (some t171)) else (some false))) = some r := h
 clear h
 replace H := bindS H; obtain ⟨t170, A3, H⟩ := H
 replace H := iteB H; rcases H with ⟨rfl, H⟩ | ⟨rfl, H⟩
 ·
  replace H := bindS H; obtain ⟨t171, A5, H⟩ := H
  obtain rfl := Option.some.inj H
  go_enter Try.func39, Try.ntmps39
  go_wp2_with (first | ((with_reducible refine gate_dst (N := 2) rfl ?_); refine boxK HB (N := 2) (cs := #[.int .i64 a0_0, .int .i64 a0_1]) (t := 23) (h := ?_); clear HB; intro gb1 hg w6 BK1 GW1 GE1 HB hb; clear hb hg; obtain ⟨hcz7_0, hcz7_1, hfz7_0, hfz7_1⟩ := kc2 BK1) | ((with_reducible refine gate_callee (f := 63) rfl ?_); refine goK (some 6) Try.func63 #[.agg #[.int .i64 a0_0, .int .i64 a0_1]] ?_; (with_reducible refine (impl_IsSnail.calls a0_0 a0_1 true _ A3.out).mono ?_); rintro e w8 ⟨rfl, hb⟩; refine ⟨_, rfl, ?_⟩; replace BK1 := kb BK1 hb; replace HB := kw HB hb; (try clear hb)) | (go_at_call 42; (with_reducible refine (impl_isWall.calls a1 t171 _ A5.out).mono ?_); rintro e w' ⟨rfl, ⟨nd, rfl⟩⟩))
  go_ret
  exact ⟨eqR, bw HB⟩
 obtain rfl := Option.some.inj H
 go_enter Try.func39, Try.ntmps39
 go_wp2_with (first | ((with_reducible refine gate_dst (N := 2) rfl ?_); refine boxK HB (N := 2) (cs := #[.int .i64 a0_0, .int .i64 a0_1]) (t := 23) (h := ?_); clear HB; intro gb1 hg w9 BK1 GW1 GE1 HB hb; clear hb hg; obtain ⟨hcz10_0, hcz10_1, hfz10_0, hfz10_1⟩ := kc2 BK1) | ((with_reducible refine gate_callee (f := 63) rfl ?_); refine goK (some 6) Try.func63 #[.agg #[.int .i64 a0_0, .int .i64 a0_1]] ?_; (with_reducible refine (impl_IsSnail.calls a0_0 a0_1 false _ A3.out).mono ?_); rintro e w11 ⟨rfl, hb⟩; refine ⟨_, rfl, ?_⟩; replace BK1 := kb BK1 hb; replace HB := kw HB hb; (try clear hb)))
 go_ret
 exact ⟨eqR, bw HB⟩

/-! ### impl_DaysToTop: function 8 -/
def impl_DaysToTop.f (a0_0 : Int) (a0_1 : Int) (a1 : Int) : Option (Int × Bool) := (impl_isWalled.f a0_0 a0_1 a1).bind fun t173 => (if t173 = true then ((impl_dayOfHeight.f a0_0 a0_1 a1).bind fun t174 => (some (t174, decide (t174 > 0)))) else (some (0, false)))
set_option maxHeartbeats 8000000 in
set_option maxRecDepth 100000 in
theorem impl_DaysToTop.calls (a0_0 : Int) (a0_1 : Int) (a1 : Int) (r1 : Int) (r2 : Bool) (w : World) (h : impl_DaysToTop.f a0_0 a0_1 a1 = some (r1, r2)) :
    Calls Try.prog 8 #[.agg #[.int .i64 a0_0, .int .i64 a0_1], .int .i64 a1] w fun e w' => e = .returned (.tuple #[.int .i64 r1, .bool r2]) ∧ Below w.heap.size w w' := by
 have hu23 := Try.underlying23
 have HB := Aside0.mk (Below.refl w.heap.size w)
 have H : ((impl_isWalled.f a0_0 a0_1 a1).bind fun t173 => (if t173 = true then ((impl_dayOfHeight.f a0_0 a0_1 a1).bind fun t174 => (some (t174, decide (t174 > 0)))) else (some (0, false)))) = some (r1, r2) := h
 clear h
 replace H := bindS H; obtain ⟨t173, A3, H⟩ := H
 replace H := iteB H; rcases H with ⟨rfl, H⟩ | ⟨rfl, H⟩
 ·
  replace H := bindS H; obtain ⟨t174, A5, H⟩ := H
  simp only [Option.some.injEq, Prod.mk.injEq] at H
  obtain ⟨rfl, rfl⟩ := H
  go_enter Try.func8, Try.ntmps8
  go_wp2_with (first | ((with_reducible refine gate_dst (N := 2) rfl ?_); refine boxK HB (N := 2) (cs := #[.int .i64 a0_0, .int .i64 a0_1]) (t := 23) (h := ?_); clear HB; intro gb1 hg w6 BK1 GW1 GE1 HB hb; clear hb hg; obtain ⟨hcz7_0, hcz7_1, hfz7_0, hfz7_1⟩ := kc2 BK1) | ((with_reducible refine gate_callee (f := 39) rfl ?_); refine goK (some 9) Try.func39 #[.agg #[.int .i64 a0_0, .int .i64 a0_1], .int .i64 a1] ?_; (with_reducible refine (impl_isWalled.calls a0_0 a0_1 a1 true _ A3.out).mono ?_); rintro e w8 ⟨rfl, hb⟩; refine ⟨_, rfl, ?_⟩; replace BK1 := kb BK1 hb; replace HB := kw HB hb; (try clear hb); obtain ⟨hcz9_0, hcz9_1, hfz9_0, hfz9_1⟩ := kc2 BK1) | ((with_reducible refine gate_callee (f := 40) rfl ?_); refine goK (some 13) Try.func40 #[.agg #[.int .i64 a0_0, .int .i64 a0_1], .int .i64 a1] ?_; (with_reducible refine (impl_dayOfHeight.calls a0_0 a0_1 a1 t174 _ A5.out).mono ?_); rintro e w10 ⟨rfl, hb⟩; refine ⟨_, rfl, ?_⟩; replace BK1 := kb BK1 hb; replace HB := kw HB hb; (try clear hb)))
  go_ret2
  exact ⟨eqR, bw HB⟩
 simp only [Option.some.injEq, Prod.mk.injEq] at H
 obtain ⟨rfl, rfl⟩ := H
 go_enter Try.func8, Try.ntmps8
 go_wp2_with (first | ((with_reducible refine gate_dst (N := 2) rfl ?_); refine boxK HB (N := 2) (cs := #[.int .i64 a0_0, .int .i64 a0_1]) (t := 23) (h := ?_); clear HB; intro gb1 hg w11 BK1 GW1 GE1 HB hb; clear hb hg; obtain ⟨hcz12_0, hcz12_1, hfz12_0, hfz12_1⟩ := kc2 BK1) | ((with_reducible refine gate_callee (f := 39) rfl ?_); refine goK (some 9) Try.func39 #[.agg #[.int .i64 a0_0, .int .i64 a0_1], .int .i64 a1] ?_; (with_reducible refine (impl_isWalled.calls a0_0 a0_1 a1 false _ A3.out).mono ?_); rintro e w13 ⟨rfl, hb⟩; refine ⟨_, rfl, ?_⟩; replace BK1 := kb BK1 hb; replace HB := kw HB hb; (try clear hb)))
 go_ret2
 exact ⟨eqR, bw HB⟩

/-! ### impl_IsClue: function 23 -/
def impl_IsClue.f (a0_0 : Int) (a0_1 : Int) (a0_2 : Int) : Option (Bool) := if a0_0 = 0 then ((impl_within.f a0_1 1 100).bind fun t176 => (if t176 = true then ((impl_within.f a0_2 0 100).bind fun t177 => (some t177)) else (some false))) else (if a0_0 = 1 then ((impl_within.f a0_1 1 100).bind fun t178 => (if t178 = true then ((impl_within.f a0_2 1 100).bind fun t179 => (some t179)) else (some false))) else (if a0_0 = 2 then (if a0_1 = 0 then ((impl_within.f a0_2 0 24).bind fun t180 => (some t180)) else (some false)) else (if a0_0 = 3 then ((impl_within.f a0_1 2 9).bind fun t181 => (if t181 = true then ((impl_within.f a0_2 0 1).bind fun t182 => (some t182)) else (some false))) else (if a0_0 = 4 then (if a0_1 = 0 then ((impl_within.f a0_2 (-12) 12).bind fun t183 => (some t183)) else (some false)) else (some false)))))
set_option maxHeartbeats 8000000 in
set_option maxRecDepth 100000 in
theorem impl_IsClue.calls (a0_0 : Int) (a0_1 : Int) (a0_2 : Int) (r : Bool) (w : World) (h : impl_IsClue.f a0_0 a0_1 a0_2 = some r) :
    Calls Try.prog 23 #[.agg #[.int .i64 a0_0, .int .i64 a0_1, .int .i64 a0_2]] w fun e w' => e = .returned (.bool r) ∧ Below w.heap.size w w' := by
 have hu28 := Try.underlying28
 have HB := Aside0.mk (Below.refl w.heap.size w)
 have H : (if a0_0 = 0 then ((impl_within.f a0_1 1 100).bind fun t176 => (if t176 = true then ((impl_within.f a0_2 0 100).bind fun t177 => (some t177)) else (some false))) else (if a0_0 = 1 then ((impl_within.f a0_1 1 100).bind fun t178 => (if t178 = true then ((impl_within.f a0_2 1 100).bind fun t179 => (some t179)) else (some false))) else (if a0_0 = 2 then (if a0_1 = 0 then ((impl_within.f a0_2 0 24).bind fun t180 => (some t180)) else (some false)) else (if a0_0 = 3 then ((impl_within.f a0_1 2 9).bind fun t181 => (if t181 = true then ((impl_within.f a0_2 0 1).bind fun t182 => (some t182)) else (some false))) else (if a0_0 = 4 then (if a0_1 = 0 then ((impl_within.f a0_2 (-12) 12).bind fun t183 => (some t183)) else (some false)) else (some false)))))) = some r := h
 clear h
 replace H := iteC H; rcases H with ⟨c2, H⟩ | ⟨c2, H⟩
 ·
  have c2b0 : (a0_0 == 0) = true := beq_iff_eq.mpr c2
  have c2b1 : (a0_0 != 0) = false := bne_eq_false_iff_eq.mpr c2
  clear c2
  replace H := bindS H; obtain ⟨t176, A3, H⟩ := H
  replace H := iteB H; rcases H with ⟨rfl, H⟩ | ⟨rfl, H⟩
  ·
   replace H := bindS H; obtain ⟨t177, A5, H⟩ := H
   obtain rfl := Option.some.inj H
   go_enter Try.func23, Try.ntmps23
   go_wp2_with (first | ((with_reducible refine gate_dst (N := 1) rfl ?_); refine boxK HB (N := 1) (cs := #[.int .i64 a0_0, .int .i64 a0_1, .int .i64 a0_2]) (t := 28) (h := ?_); clear HB; intro gb1 hg w6 BK1 GW1 GE1 HB hb; clear hb hg; obtain ⟨hcz7_0, hcz7_1, hcz7_2, hfz7_0, hfz7_1, hfz7_2⟩ := kc3 BK1) | ((with_reducible refine gate_callee (f := 33) rfl ?_); refine goK (some 9) Try.func33 #[.int .i64 a0_1, .int .i64 1, .int .i64 100] ?_; (with_reducible refine (impl_within.calls a0_1 1 100 true _ A3.out).mono ?_); rintro e w' ⟨rfl, ⟨nd, rfl⟩⟩; refine ⟨_, rfl, ?_⟩) | (go_at_call 33; (with_reducible refine (impl_within.calls a0_2 0 100 t177 _ A5.out).mono ?_); rintro e w' ⟨rfl, ⟨nd, rfl⟩⟩))
   go_ret
   exact ⟨eqR, bw HB⟩
  obtain rfl := Option.some.inj H
  go_enter Try.func23, Try.ntmps23
  go_wp2_with (first | ((with_reducible refine gate_dst (N := 1) rfl ?_); refine boxK HB (N := 1) (cs := #[.int .i64 a0_0, .int .i64 a0_1, .int .i64 a0_2]) (t := 28) (h := ?_); clear HB; intro gb1 hg w8 BK1 GW1 GE1 HB hb; clear hb hg; obtain ⟨hcz9_0, hcz9_1, hcz9_2, hfz9_0, hfz9_1, hfz9_2⟩ := kc3 BK1) | ((with_reducible refine gate_callee (f := 33) rfl ?_); refine goK (some 9) Try.func33 #[.int .i64 a0_1, .int .i64 1, .int .i64 100] ?_; (with_reducible refine (impl_within.calls a0_1 1 100 false _ A3.out).mono ?_); rintro e w' ⟨rfl, ⟨nd, rfl⟩⟩; refine ⟨_, rfl, ?_⟩))
  go_ret
  exact ⟨eqR, bw HB⟩
 have c2b0 : (a0_0 == 0) = false := beq_eq_false_iff_ne.mpr c2
 have c2b1 : (a0_0 != 0) = true := bne_iff_ne.mpr c2
 replace H := iteC H; rcases H with ⟨c10, H⟩ | ⟨c10, H⟩
 ·
  have c10b0 : (a0_0 == 1) = true := beq_iff_eq.mpr c10
  have c10b1 : (a0_0 != 1) = false := bne_eq_false_iff_eq.mpr c10
  clear c10
  replace H := bindS H; obtain ⟨t178, A11, H⟩ := H
  replace H := iteB H; rcases H with ⟨rfl, H⟩ | ⟨rfl, H⟩
  ·
   replace H := bindS H; obtain ⟨t179, A13, H⟩ := H
   obtain rfl := Option.some.inj H
   go_enter Try.func23, Try.ntmps23
   go_wp2_with (first | ((with_reducible refine gate_dst (N := 1) rfl ?_); refine boxK HB (N := 1) (cs := #[.int .i64 a0_0, .int .i64 a0_1, .int .i64 a0_2]) (t := 28) (h := ?_); clear HB; intro gb1 hg w14 BK1 GW1 GE1 HB hb; clear hb hg; obtain ⟨hcz15_0, hcz15_1, hcz15_2, hfz15_0, hfz15_1, hfz15_2⟩ := kc3 BK1) | ((with_reducible refine gate_callee (f := 33) rfl ?_); refine goK (some 19) Try.func33 #[.int .i64 a0_1, .int .i64 1, .int .i64 100] ?_; (with_reducible refine (impl_within.calls a0_1 1 100 true _ A11.out).mono ?_); rintro e w' ⟨rfl, ⟨nd, rfl⟩⟩; refine ⟨_, rfl, ?_⟩) | (go_at_call 33; (with_reducible refine (impl_within.calls a0_2 1 100 t179 _ A13.out).mono ?_); rintro e w' ⟨rfl, ⟨nd, rfl⟩⟩))
   go_ret
   exact ⟨eqR, bw HB⟩
  obtain rfl := Option.some.inj H
  go_enter Try.func23, Try.ntmps23
  go_wp2_with (first | ((with_reducible refine gate_dst (N := 1) rfl ?_); refine boxK HB (N := 1) (cs := #[.int .i64 a0_0, .int .i64 a0_1, .int .i64 a0_2]) (t := 28) (h := ?_); clear HB; intro gb1 hg w16 BK1 GW1 GE1 HB hb; clear hb hg; obtain ⟨hcz17_0, hcz17_1, hcz17_2, hfz17_0, hfz17_1, hfz17_2⟩ := kc3 BK1) | ((with_reducible refine gate_callee (f := 33) rfl ?_); refine goK (some 19) Try.func33 #[.int .i64 a0_1, .int .i64 1, .int .i64 100] ?_; (with_reducible refine (impl_within.calls a0_1 1 100 false _ A11.out).mono ?_); rintro e w' ⟨rfl, ⟨nd, rfl⟩⟩; refine ⟨_, rfl, ?_⟩))
  go_ret
  exact ⟨eqR, bw HB⟩
 have c10b0 : (a0_0 == 1) = false := beq_eq_false_iff_ne.mpr c10
 have c10b1 : (a0_0 != 1) = true := bne_iff_ne.mpr c10
 replace H := iteC H; rcases H with ⟨c18, H⟩ | ⟨c18, H⟩
 ·
  have c18b0 : (a0_0 == 2) = true := beq_iff_eq.mpr c18
  have c18b1 : (a0_0 != 2) = false := bne_eq_false_iff_eq.mpr c18
  clear c18
  replace H := iteC H; rcases H with ⟨c19, H⟩ | ⟨c19, H⟩
  ·
   have c19b0 : (a0_1 == 0) = true := beq_iff_eq.mpr c19
   have c19b1 : (a0_1 != 0) = false := bne_eq_false_iff_eq.mpr c19
   clear c19
   replace H := bindS H; obtain ⟨t180, A20, H⟩ := H
   obtain rfl := Option.some.inj H
   go_enter Try.func23, Try.ntmps23
   go_wp2_with (first | ((with_reducible refine gate_dst (N := 1) rfl ?_); refine boxK HB (N := 1) (cs := #[.int .i64 a0_0, .int .i64 a0_1, .int .i64 a0_2]) (t := 28) (h := ?_); clear HB; intro gb1 hg w21 BK1 GW1 GE1 HB hb; clear hb hg; obtain ⟨hcz22_0, hcz22_1, hcz22_2, hfz22_0, hfz22_1, hfz22_2⟩ := kc3 BK1) | (go_at_call 33; (with_reducible refine (impl_within.calls a0_2 0 24 t180 _ A20.out).mono ?_); rintro e w' ⟨rfl, ⟨nd, rfl⟩⟩))
   go_ret
   exact ⟨eqR, bw HB⟩
  have c19b0 : (a0_1 == 0) = false := beq_eq_false_iff_ne.mpr c19
  have c19b1 : (a0_1 != 0) = true := bne_iff_ne.mpr c19
  obtain rfl := Option.some.inj H
  go_enter Try.func23, Try.ntmps23
  go_wp2_with (first | ((with_reducible refine gate_dst (N := 1) rfl ?_); refine boxK HB (N := 1) (cs := #[.int .i64 a0_0, .int .i64 a0_1, .int .i64 a0_2]) (t := 28) (h := ?_); clear HB; intro gb1 hg w23 BK1 GW1 GE1 HB hb; clear hb hg; obtain ⟨hcz24_0, hcz24_1, hcz24_2, hfz24_0, hfz24_1, hfz24_2⟩ := kc3 BK1))
  go_ret
  exact ⟨eqR, bw HB⟩
 have c18b0 : (a0_0 == 2) = false := beq_eq_false_iff_ne.mpr c18
 have c18b1 : (a0_0 != 2) = true := bne_iff_ne.mpr c18
 replace H := iteC H; rcases H with ⟨c25, H⟩ | ⟨c25, H⟩
 ·
  have c25b0 : (a0_0 == 3) = true := beq_iff_eq.mpr c25
  have c25b1 : (a0_0 != 3) = false := bne_eq_false_iff_eq.mpr c25
  clear c25
  replace H := bindS H; obtain ⟨t181, A26, H⟩ := H
  replace H := iteB H; rcases H with ⟨rfl, H⟩ | ⟨rfl, H⟩
  ·
   replace H := bindS H; obtain ⟨t182, A28, H⟩ := H
   obtain rfl := Option.some.inj H
   go_enter Try.func23, Try.ntmps23
   go_wp2_with (first | ((with_reducible refine gate_dst (N := 1) rfl ?_); refine boxK HB (N := 1) (cs := #[.int .i64 a0_0, .int .i64 a0_1, .int .i64 a0_2]) (t := 28) (h := ?_); clear HB; intro gb1 hg w29 BK1 GW1 GE1 HB hb; clear hb hg; obtain ⟨hcz30_0, hcz30_1, hcz30_2, hfz30_0, hfz30_1, hfz30_2⟩ := kc3 BK1) | ((with_reducible refine gate_callee (f := 33) rfl ?_); refine goK (some 39) Try.func33 #[.int .i64 a0_1, .int .i64 2, .int .i64 9] ?_; (with_reducible refine (impl_within.calls a0_1 2 9 true _ A26.out).mono ?_); rintro e w' ⟨rfl, ⟨nd, rfl⟩⟩; refine ⟨_, rfl, ?_⟩) | (go_at_call 33; (with_reducible refine (impl_within.calls a0_2 0 1 t182 _ A28.out).mono ?_); rintro e w' ⟨rfl, ⟨nd, rfl⟩⟩))
   go_ret
   exact ⟨eqR, bw HB⟩
  obtain rfl := Option.some.inj H
  go_enter Try.func23, Try.ntmps23
  go_wp2_with (first | ((with_reducible refine gate_dst (N := 1) rfl ?_); refine boxK HB (N := 1) (cs := #[.int .i64 a0_0, .int .i64 a0_1, .int .i64 a0_2]) (t := 28) (h := ?_); clear HB; intro gb1 hg w31 BK1 GW1 GE1 HB hb; clear hb hg; obtain ⟨hcz32_0, hcz32_1, hcz32_2, hfz32_0, hfz32_1, hfz32_2⟩ := kc3 BK1) | ((with_reducible refine gate_callee (f := 33) rfl ?_); refine goK (some 39) Try.func33 #[.int .i64 a0_1, .int .i64 2, .int .i64 9] ?_; (with_reducible refine (impl_within.calls a0_1 2 9 false _ A26.out).mono ?_); rintro e w' ⟨rfl, ⟨nd, rfl⟩⟩; refine ⟨_, rfl, ?_⟩))
  go_ret
  exact ⟨eqR, bw HB⟩
 have c25b0 : (a0_0 == 3) = false := beq_eq_false_iff_ne.mpr c25
 have c25b1 : (a0_0 != 3) = true := bne_iff_ne.mpr c25
 replace H := iteC H; rcases H with ⟨c33, H⟩ | ⟨c33, H⟩
 rotate_left
 ·
  have c33b0 : (a0_0 == 4) = false := beq_eq_false_iff_ne.mpr c33
  have c33b1 : (a0_0 != 4) = true := bne_iff_ne.mpr c33
  obtain rfl := Option.some.inj H
  go_enter Try.func23, Try.ntmps23
  go_wp2_with (first | ((with_reducible refine gate_dst (N := 1) rfl ?_); refine boxK HB (N := 1) (cs := #[.int .i64 a0_0, .int .i64 a0_1, .int .i64 a0_2]) (t := 28) (h := ?_); clear HB; intro gb1 hg w40 BK1 GW1 GE1 HB hb; clear hb hg; obtain ⟨hcz41_0, hcz41_1, hcz41_2, hfz41_0, hfz41_1, hfz41_2⟩ := kc3 BK1))
  go_ret
  exact ⟨eqR, bw HB⟩
 have c33b0 : (a0_0 == 4) = true := beq_iff_eq.mpr c33
 have c33b1 : (a0_0 != 4) = false := bne_eq_false_iff_eq.mpr c33
 clear c33
 replace H := iteC H; rcases H with ⟨c34, H⟩ | ⟨c34, H⟩
 ·
  have c34b0 : (a0_1 == 0) = true := beq_iff_eq.mpr c34
  have c34b1 : (a0_1 != 0) = false := bne_eq_false_iff_eq.mpr c34
  clear c34
  replace H := bindS H; obtain ⟨t183, A35, H⟩ := H
  obtain rfl := Option.some.inj H
  go_enter Try.func23, Try.ntmps23
  go_wp2_with (first | ((with_reducible refine gate_dst (N := 1) rfl ?_); refine boxK HB (N := 1) (cs := #[.int .i64 a0_0, .int .i64 a0_1, .int .i64 a0_2]) (t := 28) (h := ?_); clear HB; intro gb1 hg w36 BK1 GW1 GE1 HB hb; clear hb hg; obtain ⟨hcz37_0, hcz37_1, hcz37_2, hfz37_0, hfz37_1, hfz37_2⟩ := kc3 BK1) | (go_at_call 33; (with_reducible refine (impl_within.calls a0_2 (-12) 12 t183 _ A35.out).mono ?_); rintro e w' ⟨rfl, ⟨nd, rfl⟩⟩))
  go_ret
  exact ⟨eqR, bw HB⟩
 have c34b0 : (a0_1 == 0) = false := beq_eq_false_iff_ne.mpr c34
 have c34b1 : (a0_1 != 0) = true := bne_iff_ne.mpr c34
 obtain rfl := Option.some.inj H
 go_enter Try.func23, Try.ntmps23
 go_wp2_with (first | ((with_reducible refine gate_dst (N := 1) rfl ?_); refine boxK HB (N := 1) (cs := #[.int .i64 a0_0, .int .i64 a0_1, .int .i64 a0_2]) (t := 28) (h := ?_); clear HB; intro gb1 hg w38 BK1 GW1 GE1 HB hb; clear hb hg; obtain ⟨hcz39_0, hcz39_1, hcz39_2, hfz39_0, hfz39_1, hfz39_2⟩ := kc3 BK1))
 go_ret
 exact ⟨eqR, bw HB⟩

/-! ### impl_doesFit: function 41 -/
def impl_doesFit.f (a0_0 : Int) (a0_1 : Int) (a0_2 : Int) (a1_0 : Int) (a1_1 : Int) : Option (Bool) := (impl_toldBy.f a0_0 a0_1 a0_2 a1_0 a1_1).bind fun t186 => (some (t186 == a0_2))
set_option maxHeartbeats 8000000 in
set_option maxRecDepth 100000 in
theorem impl_doesFit.calls (a0_0 : Int) (a0_1 : Int) (a0_2 : Int) (a1_0 : Int) (a1_1 : Int) (r : Bool) (w : World) (h : impl_doesFit.f a0_0 a0_1 a0_2 a1_0 a1_1 = some r) :
    Calls Try.prog 41 #[.agg #[.int .i64 a0_0, .int .i64 a0_1, .int .i64 a0_2], .agg #[.int .i64 a1_0, .int .i64 a1_1]] w fun e w' => e = .returned (.bool r) ∧ Below w.heap.size w w' := by
 have hu28 := Try.underlying28
 have hu23 := Try.underlying23
 have HB := Aside0.mk (Below.refl w.heap.size w)
 have H : ((impl_toldBy.f a0_0 a0_1 a0_2 a1_0 a1_1).bind fun t186 => (some (t186 == a0_2))) = some r := h
 clear h
 replace H := bindS H; obtain ⟨t186, A3, H⟩ := H
 obtain rfl := Option.some.inj H
 go_enter Try.func41, Try.ntmps41
 try go_wp2_with (first | ((with_reducible refine gate_dst (N := 2) rfl ?_); refine boxK HB (N := 2) (cs := #[.int .i64 a0_0, .int .i64 a0_1, .int .i64 a0_2]) (t := 28) (h := ?_); clear HB; intro gb1 hg w4 BK1 GW1 GE1 HB hb; clear hb hg) | ((with_reducible refine gate_dst (N := 3) rfl ?_); refine boxK HB (N := 3) (cs := #[.int .i64 a1_0, .int .i64 a1_1]) (t := 23) (h := ?_); clear HB; intro gb2 hg w5 BK2 GW2 GE2 HB hb; obtain ⟨NB1_2, NB2_1⟩ := nv1 hg BK1; replace BK1 := kb BK1 hb; clear hb hg))
 refine md2 BK1 BK2 ?_
 clear BK1 BK2
 intro BK1 BK2
 replace HB := Aside0.mk (below_drew1 HB.out)
 refine start_ (n := 7) (S := fun w' => w'.cell? ⟨gb1, 0, none⟩ = some (.int .i64 a0_0) ∧ w'.cell? ⟨gb1, 1, none⟩ = some (.int .i64 a0_1) ∧ w'.cell? ⟨gb1, 2, none⟩ = some (.int .i64 a0_2) ∧ w'.cell? ⟨gb2, 0, none⟩ = some (.int .i64 a1_0) ∧ w'.cell? ⟨gb2, 1, none⟩ = some (.int .i64 a1_1)) (ds := []) #[false, false, false, false, false, false, false] (by kernel_rfl) rfl rfl ⟨bc BK1 0, bc BK1 1, bc BK1 2, bc BK2 0, bc BK2 1⟩ (fun hHeld => ?_)
 generalize w5.drew = w6 at BK1 BK2 HB hHeld ⊢
 refine pure_ (i := 3) (N := some 8) (v := ?_) (a' := ?_) #[false, false, false, true, false, false, false] rfl rfl (by kernel_rfl) (fun _ _ _ h => h) (Or.inl ⟨by rfl, ?_⟩) ?_ ?_
 rotate_left
 ·
  intro w'
  go_simp
  with_reducible rfl
 rotate_left
 ·
  simp only [Act.put, List.setIfInBounds_toArray, List.set_cons_zero, List.set_cons_succ, i64_w, i32_w]
  rfl
 refine take_ (i := 0) (N := some 5) (v := ?_) (a' := ?_) #[true, false, false, true, false, false, false] rfl rfl (by kernel_rfl) (fun _ _ _ h => h) (Or.inl ⟨by rfl, ?_⟩) hHeld ?_ ?_
 rotate_left
 ·
  rintro w' ⟨s0, s1, s2, s3, s4⟩
  go_simp
  with_reducible rfl
 rotate_left
 ·
  simp only [Act.put, List.setIfInBounds_toArray, List.set_cons_zero, List.set_cons_succ, i64_w, i32_w]
  rfl
 refine take_ (i := 1) (N := some 6) (v := ?_) (a' := ?_) #[true, true, false, true, false, false, false] rfl rfl (by kernel_rfl) (fun _ _ _ h => h) (Or.inl ⟨by rfl, ?_⟩) hHeld ?_ ?_
 rotate_left
 ·
  rintro w' ⟨s0, s1, s2, s3, s4⟩
  go_simp
  with_reducible rfl
 rotate_left
 ·
  simp only [Act.put, List.setIfInBounds_toArray, List.set_cons_zero, List.set_cons_succ, i64_w, i32_w]
  rfl
 refine take_ (i := 4) (N := some 9) (v := ?_) (a' := ?_) #[true, true, false, true, true, false, false] rfl rfl (by kernel_rfl) (fun _ _ _ h => h) (Or.inl ⟨by rfl, ?_⟩) hHeld ?_ ?_
 rotate_left
 ·
  rintro w' ⟨s0, s1, s2, s3, s4⟩
  go_simp
  with_reducible rfl
 rotate_left
 ·
  simp only [Act.put, List.setIfInBounds_toArray, List.set_cons_zero, List.set_cons_succ, i64_w, i32_w]
  rfl
 refine one_ (i := 2) (N := some 7) #[true, true, true, true, true, false, false] rfl rfl (by kernel_rfl) (by decide) (fun K hK => ?_)
 refine goes_ Try.func34 (by kernel_rfl) rfl #[.agg #[.int .i64 a0_0, .int .i64 a0_1, .int .i64 a0_2], .agg #[.int .i64 a1_0, .int .i64 a1_1]] (by rfl) rfl rfl argR ?_
 with_reducible refine (impl_toldBy.calls a0_0 a0_1 a0_2 a1_0 a1_1 t186 _ A3.out).mono ?_
 rintro e w7 ⟨rfl, hb⟩
 refine ⟨_, rfl, ?_⟩
 refine mv2 hb BK1 BK2 ?_
 clear BK1 BK2
 intro BK1 BK2
 replace HB := kw HB hb
 (try clear hb)
 (try clear hb2)
 (try clear hk)
 (try clear hi)
 refine hK.out _ _ ⟨bc BK1 0, bc BK1 1, bc BK1 2, bc BK2 0, bc BK2 1⟩ (fun hHeld => ?_)
 clear hK K
 refine normK (N := some 7) (h := ?_)
 refine pure_ (i := 5) (N := some 10) (v := ?_) (a' := ?_) #[true, true, true, true, true, true, false] rfl rfl (by kernel_rfl) (fun _ _ _ h => h) (Or.inl ⟨by rfl, ?_⟩) ?_ ?_
 rotate_left
 ·
  intro w'
  go_simp
  with_reducible rfl
 rotate_left
 ·
  simp only [Act.put, List.setIfInBounds_toArray, List.set_cons_zero, List.set_cons_succ, i64_w, i32_w]
  rfl
 refine pure_ (i := 6) (N := some 4) (v := ?_) (a' := ?_) #[true, true, true, true, true, true, true] rfl rfl (by kernel_rfl) (fun _ _ _ h => h) (Or.inl ⟨by rfl, ?_⟩) ?_ ?_
 rotate_left
 ·
  intro w'
  go_simp
  with_reducible rfl
 rotate_left
 ·
  simp only [Act.put, List.setIfInBounds_toArray, List.set_cons_zero, List.set_cons_succ, i64_w, i32_w]
  rfl
 refine done_ (by kernel_rfl) ?_
 try go_wp2
 go_ret
 exact ⟨eqR, bw HB⟩

/-! ### impl_DoesFit: function 9 -/
def impl_DoesFit.f (a0_0 : Int) (a0_1 : Int) (a0_2 : Int) (a1_0 : Int) (a1_1 : Int) : Option (Bool × Bool) := (impl_IsClue.f a0_0 a0_1 a0_2).bind fun t189 => (if t189 = true then ((impl_isHidden.f a1_0 a1_1).bind fun t190 => (if t190 = true then ((impl_doesFit.f a0_0 a0_1 a0_2 a1_0 a1_1).bind fun t191 => (some (t191, true))) else (some (false, false)))) else (some (false, false)))
set_option maxHeartbeats 8000000 in
set_option maxRecDepth 100000 in
theorem impl_DoesFit.calls (a0_0 : Int) (a0_1 : Int) (a0_2 : Int) (a1_0 : Int) (a1_1 : Int) (r1 : Bool) (r2 : Bool) (w : World) (h : impl_DoesFit.f a0_0 a0_1 a0_2 a1_0 a1_1 = some (r1, r2)) :
    Calls Try.prog 9 #[.agg #[.int .i64 a0_0, .int .i64 a0_1, .int .i64 a0_2], .agg #[.int .i64 a1_0, .int .i64 a1_1]] w fun e w' => e = .returned (.tuple #[.bool r1, .bool r2]) ∧ Below w.heap.size w w' := by
 have hu28 := Try.underlying28
 have hu23 := Try.underlying23
 have HB := Aside0.mk (Below.refl w.heap.size w)
 have H : ((impl_IsClue.f a0_0 a0_1 a0_2).bind fun t189 => (if t189 = true then ((impl_isHidden.f a1_0 a1_1).bind fun t190 => (if t190 = true then ((impl_doesFit.f a0_0 a0_1 a0_2 a1_0 a1_1).bind fun t191 => (some (t191, true))) else (some (false, false)))) else (some (false, false)))) = some (r1, r2) := h
 clear h
 replace H := bindS H; obtain ⟨t189, A3, H⟩ := H
 replace H := iteB H; rcases H with ⟨rfl, H⟩ | ⟨rfl, H⟩
 rotate_left
 ·
  simp only [Option.some.injEq, Prod.mk.injEq] at H
  obtain ⟨rfl, rfl⟩ := H
  go_enter Try.func9, Try.ntmps9
  go_wp2_with (first | ((with_reducible refine gate_dst (N := 2) rfl ?_); refine boxK HB (N := 2) (cs := #[.int .i64 a0_0, .int .i64 a0_1, .int .i64 a0_2]) (t := 28) (h := ?_); clear HB; intro gb1 hg w25 BK1 GW1 GE1 HB hb; clear hb hg) | ((with_reducible refine gate_dst (N := 3) rfl ?_); refine boxK HB (N := 3) (cs := #[.int .i64 a1_0, .int .i64 a1_1]) (t := 23) (h := ?_); clear HB; intro gb2 hg w26 BK2 GW2 GE2 HB hb; obtain ⟨NB1_2, NB2_1⟩ := nv1 hg BK1; replace BK1 := kb BK1 hb; clear hb hg; have hnb27 := up1 NB1_2; obtain ⟨hcz28_0, hcz28_1, hcz28_2, hfz28_0, hfz28_1, hfz28_2⟩ := kc3 BK1) | ((with_reducible refine gate_callee (f := 23) rfl ?_); refine goK (some 7) Try.func23 #[.agg #[.int .i64 a0_0, .int .i64 a0_1, .int .i64 a0_2]] ?_; (with_reducible refine (impl_IsClue.calls a0_0 a0_1 a0_2 false _ A3.out).mono ?_); rintro e w29 ⟨rfl, hb⟩; refine ⟨_, rfl, ?_⟩; refine mv2 hb BK1 BK2 ?_; clear BK1 BK2; intro BK1 BK2; replace HB := kw HB hb; (try clear hb)))
  go_ret2
  exact ⟨eqR, bw HB⟩
 replace H := bindS H; obtain ⟨t190, A5, H⟩ := H
 replace H := iteB H; rcases H with ⟨rfl, H⟩ | ⟨rfl, H⟩
 ·
  replace H := bindS H; obtain ⟨t191, A7, H⟩ := H
  simp only [Option.some.injEq, Prod.mk.injEq] at H
  obtain ⟨rfl, rfl⟩ := H
  go_enter Try.func9, Try.ntmps9
  go_wp2_with (first | ((with_reducible refine gate_dst (N := 2) rfl ?_); refine boxK HB (N := 2) (cs := #[.int .i64 a0_0, .int .i64 a0_1, .int .i64 a0_2]) (t := 28) (h := ?_); clear HB; intro gb1 hg w8 BK1 GW1 GE1 HB hb; clear hb hg) | ((with_reducible refine gate_dst (N := 3) rfl ?_); refine boxK HB (N := 3) (cs := #[.int .i64 a1_0, .int .i64 a1_1]) (t := 23) (h := ?_); clear HB; intro gb2 hg w9 BK2 GW2 GE2 HB hb; obtain ⟨NB1_2, NB2_1⟩ := nv1 hg BK1; replace BK1 := kb BK1 hb; clear hb hg; have hnb10 := up1 NB1_2; obtain ⟨hcz11_0, hcz11_1, hcz11_2, hfz11_0, hfz11_1, hfz11_2⟩ := kc3 BK1) | ((with_reducible refine gate_callee (f := 23) rfl ?_); refine goK (some 7) Try.func23 #[.agg #[.int .i64 a0_0, .int .i64 a0_1, .int .i64 a0_2]] ?_; (with_reducible refine (impl_IsClue.calls a0_0 a0_1 a0_2 true _ A3.out).mono ?_); rintro e w12 ⟨rfl, hb⟩; refine ⟨_, rfl, ?_⟩; refine mv2 hb BK1 BK2 ?_; clear BK1 BK2; intro BK1 BK2; replace HB := kw HB hb; (try clear hb); obtain ⟨hcz13_0, hcz13_1, hfz13_0, hfz13_1⟩ := kc2 BK2) | (go_at_call 32; (with_reducible refine (impl_isHidden.calls a1_0 a1_1 true _ A5.out).mono ?_); rintro e w14 ⟨rfl, hb⟩; refine mv2 hb BK1 BK2 ?_; clear BK1 BK2; intro BK1 BK2; replace HB := kw HB hb; (try clear hb); obtain ⟨hcz15_0, hcz15_1, hcz15_2, hfz15_0, hfz15_1, hfz15_2⟩ := kc3 BK1; obtain ⟨hcz16_0, hcz16_1, hfz16_0, hfz16_1⟩ := kc2 BK2) | ((with_reducible refine gate_callee (f := 41) rfl ?_); refine goK (some 16) Try.func41 #[.agg #[.int .i64 a0_0, .int .i64 a0_1, .int .i64 a0_2], .agg #[.int .i64 a1_0, .int .i64 a1_1]] ?_; (with_reducible refine (impl_doesFit.calls a0_0 a0_1 a0_2 a1_0 a1_1 t191 _ A7.out).mono ?_); rintro e w17 ⟨rfl, hb⟩; refine ⟨_, rfl, ?_⟩; refine mv2 hb BK1 BK2 ?_; clear BK1 BK2; intro BK1 BK2; replace HB := kw HB hb; (try clear hb)))
  go_ret2
  exact ⟨eqR, bw HB⟩
 simp only [Option.some.injEq, Prod.mk.injEq] at H
 obtain ⟨rfl, rfl⟩ := H
 go_enter Try.func9, Try.ntmps9
 go_wp2_with (first | ((with_reducible refine gate_dst (N := 2) rfl ?_); refine boxK HB (N := 2) (cs := #[.int .i64 a0_0, .int .i64 a0_1, .int .i64 a0_2]) (t := 28) (h := ?_); clear HB; intro gb1 hg w18 BK1 GW1 GE1 HB hb; clear hb hg) | ((with_reducible refine gate_dst (N := 3) rfl ?_); refine boxK HB (N := 3) (cs := #[.int .i64 a1_0, .int .i64 a1_1]) (t := 23) (h := ?_); clear HB; intro gb2 hg w19 BK2 GW2 GE2 HB hb; obtain ⟨NB1_2, NB2_1⟩ := nv1 hg BK1; replace BK1 := kb BK1 hb; clear hb hg; have hnb20 := up1 NB1_2; obtain ⟨hcz21_0, hcz21_1, hcz21_2, hfz21_0, hfz21_1, hfz21_2⟩ := kc3 BK1) | ((with_reducible refine gate_callee (f := 23) rfl ?_); refine goK (some 7) Try.func23 #[.agg #[.int .i64 a0_0, .int .i64 a0_1, .int .i64 a0_2]] ?_; (with_reducible refine (impl_IsClue.calls a0_0 a0_1 a0_2 true _ A3.out).mono ?_); rintro e w22 ⟨rfl, hb⟩; refine ⟨_, rfl, ?_⟩; refine mv2 hb BK1 BK2 ?_; clear BK1 BK2; intro BK1 BK2; replace HB := kw HB hb; (try clear hb); obtain ⟨hcz23_0, hcz23_1, hfz23_0, hfz23_1⟩ := kc2 BK2) | (go_at_call 32; (with_reducible refine (impl_isHidden.calls a1_0 a1_1 false _ A5.out).mono ?_); rintro e w24 ⟨rfl, hb⟩; refine mv2 hb BK1 BK2 ?_; clear BK1 BK2; intro BK1 BK2; replace HB := kw HB hb; (try clear hb)))
 go_ret2
 exact ⟨eqR, bw HB⟩

end Go.Proofs.Ytlpjooijkeadbaa.PH
