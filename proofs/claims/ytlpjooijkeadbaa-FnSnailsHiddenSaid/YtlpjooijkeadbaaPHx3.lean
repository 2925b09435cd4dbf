-- Written by a program of our own (wip/tools/xprint.py) for this claim; Lean checks it.
import Derived.Test.YtlpjooijkeadbaaPHx0
namespace Go.Proofs.Ytlpjooijkeadbaa.PH
open Go.RowKit Go.Proofs.YtlpjooijkeadbaaK Go.Proofs.YtlpjooijkeadbaaW.PrintWords Go.Proofs.YtlpjooijkeadbaaW.PrintLast Go.Proofs.YtlpjooijkeadbaaW.PrintMore
attribute [local go_sem] max2_int min2_int max_two min_two max_three min_three max_four min_four   -- for this text's walks alone
set_option linter.unusedVariables false
set_option linter.unusedSimpArgs false

/-! ### impl_within: function 33 -/
def impl_within.f (a0 : Int) (a1 : Int) (a2 : Int) : Option (Bool) := if a0 ≥ a1 then (some (decide (a0 ≤ a2))) else (some false)
set_option maxHeartbeats 8000000 in
set_option maxRecDepth 100000 in
theorem impl_within.calls (a0 : Int) (a1 : Int) (a2 : Int) (r : Bool) (w : World) (h : impl_within.f a0 a1 a2 = some r) :
    Calls Try.prog 33 #[.int .i64 a0, .int .i64 a1, .int .i64 a2] w fun e w' => e = .returned (.bool r) ∧ Drawn0 w w' := by
 have H : (if a0 ≥ a1 then (some (decide (a0 ≤ a2))) else (some false)) = some r := h
 clear h
 replace H := iteC H; rcases H with ⟨c4, H⟩ | ⟨c4, H⟩
 ·
  have c4b0 : decide (a1 ≤ a0) = true := decide_eq_true c4
  clear c4
  obtain rfl := Option.some.inj H
  go_enter Try.func33, Try.ntmps33
  go_wp2
  go_ret
  exact ⟨by first | rfl | (simp; done) | (simp [*]; done), by repeat (first | exact Drawn0.refl _ | apply Drawn0.step)⟩
 have c4b0 : decide (a1 ≤ a0) = false := decide_eq_false c4
 clear c4
 obtain rfl := Option.some.inj H
 go_enter Try.func33, Try.ntmps33
 go_wp2
 go_ret
 exact ⟨by first | rfl | (simp; done) | (simp [*]; done), by repeat (first | exact Drawn0.refl _ | apply Drawn0.step)⟩

/-! ### impl_isHidden: function 32 -/
def impl_isHidden.f (a0_0 : Int) (a0_1 : Int) : Option (Bool) := (impl_within.f a0_0 1 12).bind fun t102 => (if t102 = true then ((impl_within.f a0_1 0 12).bind fun t103 => (some t103)) else (some false))
set_option maxHeartbeats 8000000 in
set_option maxRecDepth 100000 in
theorem impl_isHidden.calls (a0_0 : Int) (a0_1 : Int) (r : Bool) (w : World) (h : impl_isHidden.f a0_0 a0_1 = some r) :
    Calls Try.prog 32 #[.agg #[.int .i64 a0_0, .int .i64 a0_1]] w fun e w' => e = .returned (.bool r) ∧ Below w.heap.size w w' := by
 have hu23 := Try.underlying23
 have HB := Aside0.mk (Below.refl w.heap.size w)
 have H : ((impl_within.f a0_0 1 12).bind fun t102 => (if t102 = true then ((impl_within.f a0_1 0 12).bind fun t103 => (some t103)) else (some false))) = some r := h
 clear h
 replace H := bindS H; obtain ⟨t102, A2, H⟩ := H
 replace H := iteB H; rcases H with ⟨rfl, H⟩ | ⟨rfl, H⟩
 ·
  replace H := bindS H; obtain ⟨t103, A4, H⟩ := H
  obtain rfl := Option.some.inj H
  go_enter Try.func32, Try.ntmps32
  go_wp2_with (first | ((with_reducible refine gate_dst (N := 1) rfl ?_); refine boxK HB (N := 1) (cs := #[.int .i64 a0_0, .int .i64 a0_1]) (t := 23) (h := ?_); clear HB; intro gb1 hg w5 BK1 GW1 GE1 HB hb; clear hb hg; obtain ⟨hcz6_0, hcz6_1, hfz6_0, hfz6_1⟩ := kc2 BK1) | ((with_reducible refine gate_callee (f := 33) rfl ?_); refine goK (some 5) Try.func33 #[.int .i64 a0_0, .int .i64 1, .int .i64 12] ?_; (with_reducible refine (impl_within.calls a0_0 1 12 true _ A2.out).mono ?_); rintro e w' ⟨rfl, ⟨nd, rfl⟩⟩; refine ⟨_, rfl, ?_⟩) | (go_at_call 33; (with_reducible refine (impl_within.calls a0_1 0 12 t103 _ A4.out).mono ?_); rintro e w' ⟨rfl, ⟨nd, rfl⟩⟩))
  go_ret
  exact ⟨eqR, bw HB⟩
 obtain rfl := Option.some.inj H
 go_enter Try.func32, Try.ntmps32
 go_wp2_with (first | ((with_reducible refine gate_dst (N := 1) rfl ?_); refine boxK HB (N := 1) (cs := #[.int .i64 a0_0, .int .i64 a0_1]) (t := 23) (h := ?_); clear HB; intro gb1 hg w7 BK1 GW1 GE1 HB hb; clear hb hg; obtain ⟨hcz8_0, hcz8_1, hfz8_0, hfz8_1⟩ := kc2 BK1) | ((with_reducible refine gate_callee (f := 33) rfl ?_); refine goK (some 5) Try.func33 #[.int .i64 a0_0, .int .i64 1, .int .i64 12] ?_; (with_reducible refine (impl_within.calls a0_0 1 12 false _ A2.out).mono ?_); rintro e w' ⟨rfl, ⟨nd, rfl⟩⟩; refine ⟨_, rfl, ?_⟩))
 go_ret
 exact ⟨eqR, bw HB⟩

/-! ### impl_dayOfHeight: function 40 -/
def impl_dayOfHeight.f (a0_0 : Int) (a0_1 : Int) (a1 : Int) : Option (Int) := if a1 ≤ a0_0 then (some 1) else (if a0_0 ≤ a0_1 then (some 0) else (if (wrap64 (a0_0 - a0_1)) = 0 then (none) else (some (wrap64 (1 + (wrap64 (Int.tdiv (wrap64 ((wrap64 ((wrap64 (a1 - a0_0)) + (wrap64 (a0_0 - a0_1)))) - 1)) (wrap64 (a0_0 - a0_1)))))))))
set_option maxHeartbeats 8000000 in
set_option maxRecDepth 100000 in
theorem impl_dayOfHeight.calls (a0_0 : Int) (a0_1 : Int) (a1 : Int) (r : Int) (w : World) (h : impl_dayOfHeight.f a0_0 a0_1 a1 = some r) :
    Calls Try.prog 40 #[.agg #[.int .i64 a0_0, .int .i64 a0_1], .int .i64 a1] w fun e w' => e = .returned (.int .i64 r) ∧ Below w.heap.size w w' := by
 have hu23 := Try.underlying23
 have HB := Aside0.mk (Below.refl w.heap.size w)
 have H : (if a1 ≤ a0_0 then (some 1) else (if a0_0 ≤ a0_1 then (some 0) else (if (wrap64 (a0_0 - a0_1)) = 0 then (none) else (some (wrap64 (1 + (wrap64 (Int.tdiv (wrap64 ((wrap64 ((wrap64 (a1 - a0_0)) + (wrap64 (a0_0 - a0_1)))) - 1)) (wrap64 (a0_0 - a0_1)))))))))) = some r := h
 clear h
 replace H := iteC H; rcases H with ⟨c3, H⟩ | ⟨c3, H⟩
 ·
  have c3b0 : decide (a1 ≤ a0_0) = true := decide_eq_true c3
  clear c3
  obtain rfl := Option.some.inj H
  go_enter Try.func40, Try.ntmps40
  go_wp2_with (first | ((with_reducible refine gate_dst (N := 2) rfl ?_); refine boxK HB (N := 2) (cs := #[.int .i64 a0_0, .int .i64 a0_1]) (t := 23) (h := ?_); clear HB; intro gb1 hg w4 BK1 GW1 GE1 HB hb; clear hb hg; obtain ⟨hcz5_0, hcz5_1, hfz5_0, hfz5_1⟩ := kc2 BK1))
  go_ret
  exact ⟨eqR, bw HB⟩
 have c3b0 : decide (a1 ≤ a0_0) = false := decide_eq_false c3
 clear c3
 replace H := iteC H; rcases H with ⟨c6, H⟩ | ⟨c6, H⟩
 ·
  have c6b0 : decide (a0_0 ≤ a0_1) = true := decide_eq_true c6
  clear c6
  obtain rfl := Option.some.inj H
  go_enter Try.func40, Try.ntmps40
  go_wp2_with (first | ((with_reducible refine gate_dst (N := 2) rfl ?_); refine boxK HB (N := 2) (cs := #[.int .i64 a0_0, .int .i64 a0_1]) (t := 23) (h := ?_); clear HB; intro gb1 hg w7 BK1 GW1 GE1 HB hb; clear hb hg; obtain ⟨hcz8_0, hcz8_1, hfz8_0, hfz8_1⟩ := kc2 BK1))
  go_ret
  exact ⟨eqR, bw HB⟩
 have c6b0 : decide (a0_0 ≤ a0_1) = false := decide_eq_false c6
 clear c6
 replace H := iteC H; rcases H with ⟨c9, H⟩ | ⟨c9, H⟩
 · exact absurd H (by simp)
 have c9b0 : ((wrap64 (a0_0 - a0_1)) == 0) = false := beq_eq_false_iff_ne.mpr c9
 have c9b1 : ((wrap64 (a0_0 - a0_1)) != 0) = true := bne_iff_ne.mpr c9
 obtain rfl := Option.some.inj H
 go_enter Try.func40, Try.ntmps40
 go_wp2_with (first | ((with_reducible refine gate_dst (N := 2) rfl ?_); refine boxK HB (N := 2) (cs := #[.int .i64 a0_0, .int .i64 a0_1]) (t := 23) (h := ?_); clear HB; intro gb1 hg w10 BK1 GW1 GE1 HB hb; clear hb hg; obtain ⟨hcz11_0, hcz11_1, hfz11_0, hfz11_1⟩ := kc2 BK1))
 go_ret
 exact ⟨eqR, bw HB⟩

/-! ### impl_reachOf: function 64 -/
def impl_reachOf.f (a0_0 : Int) (a0_1 : Int) (a1 : Int) : Option (Int) := some (wrap64 (a0_0 + (wrap64 ((mx 0 (wrap64 (a0_0 - a0_1))) * (wrap64 (a1 - 1))))))
set_option maxHeartbeats 8000000 in
set_option maxRecDepth 100000 in
theorem impl_reachOf.calls (a0_0 : Int) (a0_1 : Int) (a1 : Int) (r : Int) (w : World) (h : impl_reachOf.f a0_0 a0_1 a1 = some r) :
    Calls Try.prog 64 #[.agg #[.int .i64 a0_0, .int .i64 a0_1], .int .i64 a1] w fun e w' => e = .returned (.int .i64 r) ∧ Below w.heap.size w w' := by
 have hu23 := Try.underlying23
 have HB := Aside0.mk (Below.refl w.heap.size w)
 have H : (some (wrap64 (a0_0 + (wrap64 ((mx 0 (wrap64 (a0_0 - a0_1))) * (wrap64 (a1 - 1))))))) = some r := h
 clear h
 obtain ⟨ji3, hji3⟩ : ∃ j_ : Int, (mx 0 (wrap64 (a0_0 - a0_1))) = j_ := ⟨_, rfl⟩
 replace H : (some (wrap64 (a0_0 + (wrap64 ((ji3) * (wrap64 (a1 - 1))))))) = some r := by first | (rw [hji3] at H; exact H) | (simp only [hji3] at H ⊢; exact H)
 (try (have hji3l : 0 ≤ ji3 := by (rw [← hji3]; unfold mx; (repeat' split) <;> omega)))
 (try (have hji3m : 0 ≤ ji3 := by omega))
 have hji3_ : (if 0 < (wrap64 (a0_0 - a0_1)) then (wrap64 (a0_0 - a0_1)) else 0) = ji3 := hji3
 obtain rfl := Option.some.inj H
 go_enter Try.func64, Try.ntmps64
 go_wp2_with (first | ((with_reducible refine gate_dst (N := 2) rfl ?_); refine boxK HB (N := 2) (cs := #[.int .i64 a0_0, .int .i64 a0_1]) (t := 23) (h := ?_); clear HB; intro gb1 hg w4 BK1 GW1 GE1 HB hb; clear hb hg; obtain ⟨hcz5_0, hcz5_1, hfz5_0, hfz5_1⟩ := kc2 BK1))
 go_ret
 exact ⟨by first | rfl | (simp [errW_none, errW_some] <;> rfl) | (simp only [← hji3]; first | rfl | (simp [errW_none, errW_some] <;> rfl)) | (simp [*, errW_none, errW_some] <;> rfl), bw HB⟩

/-! ### impl_eveningHeight: function 43 -/
def impl_eveningHeight.f (a0_0 : Int) (a0_1 : Int) (a1 : Int) (a2 : Int) : Option (Int) := (impl_reachOf.f a0_0 a0_1 a2).bind fun t107 => (some (mn a1 t107))
set_option maxHeartbeats 8000000 in
set_option maxRecDepth 100000 in
theorem impl_eveningHeight.calls (a0_0 : Int) (a0_1 : Int) (a1 : Int) (a2 : Int) (r : Int) (w : World) (h : impl_eveningHeight.f a0_0 a0_1 a1 a2 = some r) :
    Calls Try.prog 43 #[.agg #[.int .i64 a0_0, .int .i64 a0_1], .int .i64 a1, .int .i64 a2] w fun e w' => e = .returned (.int .i64 r) ∧ Below w.heap.size w w' := by
 have hu23 := Try.underlying23
 have HB := Aside0.mk (Below.refl w.heap.size w)
 have H : ((impl_reachOf.f a0_0 a0_1 a2).bind fun t107 => (some (mn a1 t107))) = some r := h
 clear h
 replace H := bindS H; obtain ⟨t107, A4, H⟩ := H
 obtain ⟨ji5, hji5⟩ : ∃ j_ : Int, (mn a1 t107) = j_ := ⟨_, rfl⟩
 replace H : (some ji5) = some r := by first | (rw [hji5] at H; exact H) | (simp only [hji5] at H ⊢; exact H)
 (try rw [hji5] at A4)
 have hji5_ : (if t107 < a1 then t107 else a1) = ji5 := hji5
 obtain rfl := Option.some.inj H
 go_enter Try.func43, Try.ntmps43
 go_wp2_with (first | ((with_reducible refine gate_dst (N := 3) rfl ?_); refine boxK HB (N := 3) (cs := #[.int .i64 a0_0, .int .i64 a0_1]) (t := 23) (h := ?_); clear HB; intro gb1 hg w6 BK1 GW1 GE1 HB hb; clear hb hg; obtain ⟨hcz7_0, hcz7_1, hfz7_0, hfz7_1⟩ := kc2 BK1) | ((with_reducible refine gate_callee (f := 64) rfl ?_); refine goK (some 10) Try.func64 #[.agg #[.int .i64 a0_0, .int .i64 a0_1], .int .i64 a2] ?_; (with_reducible refine (impl_reachOf.calls a0_0 a0_1 a2 t107 _ A4.out).mono ?_); rintro e w8 ⟨rfl, hb⟩; refine ⟨_, rfl, ?_⟩; replace BK1 := kb BK1 hb; replace HB := kw HB hb; (try clear hb)))
 go_ret
 exact ⟨by first | rfl | (simp [errW_none, errW_some] <;> rfl) | (simp only [← hji5]; first | rfl | (simp [errW_none, errW_some] <;> rfl)) | (simp [*, errW_none, errW_some] <;> rfl), bw HB⟩

/-! ### impl_toldBy: function 34 -/
def impl_toldBy.f (a0_0 : Int) (a0_1 : Int) (a0_2 : Int) (a1_0 : Int) (a1_1 : Int) : Option (Int) := if a0_0 = 0 then ((impl_dayOfHeight.f a1_0 a1_1 a0_1).bind fun t110 => (some t110)) else (if a0_0 = 1 then ((impl_eveningHeight.f a1_0 a1_1 100 a0_1).bind fun t111 => (some t111)) else (if a0_0 = 2 then (some (wrap64 (a1_0 + a1_1))) else (if a0_0 = 3 then (if a0_1 = 0 then (none) else (if (Int.tmod a1_0 a0_1) = 0 then (some 1) else (some 0))) else (some (wrap64 (a1_0 - a1_1))))))
set_option maxHeartbeats 8000000 in
set_option maxRecDepth 100000 in
theorem impl_toldBy.calls (a0_0 : Int) (a0_1 : Int) (a0_2 : Int) (a1_0 : Int) (a1_1 : Int) (r : Int) (w : World) (h : impl_toldBy.f a0_0 a0_1 a0_2 a1_0 a1_1 = some r) :
    Calls Try.prog 34 #[.agg #[.int .i64 a0_0, .int .i64 a0_1, .int .i64 a0_2], .agg #[.int .i64 a1_0, .int .i64 a1_1]] w fun e w' => e = .returned (.int .i64 r) ∧ Below w.heap.size w w' := by
 have hu28 := Try.underlying28
 have hu23 := Try.underlying23
 have HB := Aside0.mk (Below.refl w.heap.size w)
 have H : (if a0_0 = 0 then ((impl_dayOfHeight.f a1_0 a1_1 a0_1).bind fun t110 => (some t110)) else (if a0_0 = 1 then ((impl_eveningHeight.f a1_0 a1_1 100 a0_1).bind fun t111 => (some t111)) else (if a0_0 = 2 then (some (wrap64 (a1_0 + a1_1))) else (if a0_0 = 3 then (if a0_1 = 0 then (none) else (if (Int.tmod a1_0 a0_1) = 0 then (some 1) else (some 0))) else (some (wrap64 (a1_0 - a1_1))))))) = some r := h
 clear h
 replace H := iteC H; rcases H with ⟨c3, H⟩ | ⟨c3, H⟩
 ·
  have c3b0 : (a0_0 == 0) = true := beq_iff_eq.mpr c3
  have c3b1 : (a0_0 != 0) = false := bne_eq_false_iff_eq.mpr c3
  clear c3
  replace H := bindS H; obtain ⟨t110, A4, H⟩ := H
  obtain rfl := Option.some.inj H
  go_enter Try.func34, Try.ntmps34
  go_wp2_with (first | ((with_reducible refine gate_dst (N := 2) rfl ?_); refine boxK HB (N := 2) (cs := #[.int .i64 a0_0, .int .i64 a0_1, .int .i64 a0_2]) (t := 28) (h := ?_); clear HB; intro gb1 hg w5 BK1 GW1 GE1 HB hb; clear hb hg) | ((with_reducible refine gate_dst (N := 3) rfl ?_); refine boxK HB (N := 3) (cs := #[.int .i64 a1_0, .int .i64 a1_1]) (t := 23) (h := ?_); clear HB; intro gb2 hg w6 BK2 GW2 GE2 HB hb; obtain ⟨NB1_2, NB2_1⟩ := nv1 hg BK1; replace BK1 := kb BK1 hb; clear hb hg; have hnb7 := up1 NB1_2; obtain ⟨hcz8_0, hcz8_1, hcz8_2, hfz8_0, hfz8_1, hfz8_2⟩ := kc3 BK1; obtain ⟨hcz9_0, hcz9_1, hfz9_0, hfz9_1⟩ := kc2 BK2) | ((with_reducible refine gate_callee (f := 40) rfl ?_); refine goK (some 12) Try.func40 #[.agg #[.int .i64 a1_0, .int .i64 a1_1], .int .i64 a0_1] ?_; (with_reducible refine (impl_dayOfHeight.calls a1_0 a1_1 a0_1 t110 _ A4.out).mono ?_); rintro e w10 ⟨rfl, hb⟩; refine ⟨_, rfl, ?_⟩; refine mv2 hb BK1 BK2 ?_; clear BK1 BK2; intro BK1 BK2; replace HB := kw HB hb; (try clear hb)))
  go_ret
  exact ⟨eqR, bw HB⟩
 have c3b0 : (a0_0 == 0) = false := beq_eq_false_iff_ne.mpr c3
 have c3b1 : (a0_0 != 0) = true := bne_iff_ne.mpr c3
 replace H := iteC H; rcases H with ⟨c11, H⟩ | ⟨c11, H⟩
 ·
  have c11b0 : (a0_0 == 1) = true := beq_iff_eq.mpr c11
  have c11b1 : (a0_0 != 1) = false := bne_eq_false_iff_eq.mpr c11
  clear c11
  replace H := bindS H; obtain ⟨t111, A12, H⟩ := H
  obtain rfl := Option.some.inj H
  go_enter Try.func34, Try.ntmps34
  go_wp2_with (first | ((with_reducible refine gate_dst (N := 2) rfl ?_); refine boxK HB (N := 2) (cs := #[.int .i64 a0_0, .int .i64 a0_1, .int .i64 a0_2]) (t := 28) (h := ?_); clear HB; intro gb1 hg w13 BK1 GW1 GE1 HB hb; clear hb hg) | ((with_reducible refine gate_dst (N := 3) rfl ?_); refine boxK HB (N := 3) (cs := #[.int .i64 a1_0, .int .i64 a1_1]) (t := 23) (h := ?_); clear HB; intro gb2 hg w14 BK2 GW2 GE2 HB hb; obtain ⟨NB1_2, NB2_1⟩ := nv1 hg BK1; replace BK1 := kb BK1 hb; clear hb hg; have hnb15 := up1 NB1_2; obtain ⟨hcz16_0, hcz16_1, hcz16_2, hfz16_0, hfz16_1, hfz16_2⟩ := kc3 BK1; obtain ⟨hcz17_0, hcz17_1, hfz17_0, hfz17_1⟩ := kc2 BK2) | ((with_reducible refine gate_callee (f := 43) rfl ?_); refine goK (some 18) Try.func43 #[.agg #[.int .i64 a1_0, .int .i64 a1_1], .int .i64 100, .int .i64 a0_1] ?_; (with_reducible refine (impl_eveningHeight.calls a1_0 a1_1 100 a0_1 t111 _ A12.out).mono ?_); rintro e w18 ⟨rfl, hb⟩; refine ⟨_, rfl, ?_⟩; refine mv2 hb BK1 BK2 ?_; clear BK1 BK2; intro BK1 BK2; replace HB := kw HB hb; (try clear hb)))
  go_ret
  exact ⟨eqR, bw HB⟩
 have c11b0 : (a0_0 == 1) = false := beq_eq_false_iff_ne.mpr c11
 have c11b1 : (a0_0 != 1) = true := bne_iff_ne.mpr c11
 replace H := iteC H; rcases H with ⟨c19, H⟩ | ⟨c19, H⟩
 ·
  have c19b0 : (a0_0 == 2) = true := beq_iff_eq.mpr c19
  have c19b1 : (a0_0 != 2) = false := bne_eq_false_iff_eq.mpr c19
  clear c19
  obtain rfl := Option.some.inj H
  go_enter Try.func34, Try.ntmps34
  go_wp2_with (first | ((with_reducible refine gate_dst (N := 2) rfl ?_); refine boxK HB (N := 2) (cs := #[.int .i64 a0_0, .int .i64 a0_1, .int .i64 a0_2]) (t := 28) (h := ?_); clear HB; intro gb1 hg w20 BK1 GW1 GE1 HB hb; clear hb hg) | ((with_reducible refine gate_dst (N := 3) rfl ?_); refine boxK HB (N := 3) (cs := #[.int .i64 a1_0, .int .i64 a1_1]) (t := 23) (h := ?_); clear HB; intro gb2 hg w21 BK2 GW2 GE2 HB hb; obtain ⟨NB1_2, NB2_1⟩ := nv1 hg BK1; replace BK1 := kb BK1 hb; clear hb hg; have hnb22 := up1 NB1_2; obtain ⟨hcz23_0, hcz23_1, hcz23_2, hfz23_0, hfz23_1, hfz23_2⟩ := kc3 BK1; obtain ⟨hcz24_0, hcz24_1, hfz24_0, hfz24_1⟩ := kc2 BK2))
  go_ret
  exact ⟨eqR, bw HB⟩
 have c19b0 : (a0_0 == 2) = false := beq_eq_false_iff_ne.mpr c19
 have c19b1 : (a0_0 != 2) = true := bne_iff_ne.mpr c19
 replace H := iteC H; rcases H with ⟨c25, H⟩ | ⟨c25, H⟩
 rotate_left
 ·
  have c25b0 : (a0_0 == 3) = false := beq_eq_false_iff_ne.mpr c25
  have c25b1 : (a0_0 != 3) = true := bne_iff_ne.mpr c25
  obtain rfl := Option.some.inj H
  go_enter Try.func34, Try.ntmps34
  go_wp2_with (first | ((with_reducible refine gate_dst (N := 2) rfl ?_); refine boxK HB (N := 2) (cs := #[.int .i64 a0_0, .int .i64 a0_1, .int .i64 a0_2]) (t := 28) (h := ?_); clear HB; intro gb1 hg w38 BK1 GW1 GE1 HB hb; clear hb hg) | ((with_reducible refine gate_dst (N := 3) rfl ?_); refine boxK HB (N := 3) (cs := #[.int .i64 a1_0, .int .i64 a1_1]) (t := 23) (h := ?_); clear HB; intro gb2 hg w39 BK2 GW2 GE2 HB hb; obtain ⟨NB1_2, NB2_1⟩ := nv1 hg BK1; replace BK1 := kb BK1 hb; clear hb hg; have hnb40 := up1 NB1_2; obtain ⟨hcz41_0, hcz41_1, hcz41_2, hfz41_0, hfz41_1, hfz41_2⟩ := kc3 BK1; obtain ⟨hcz42_0, hcz42_1, hfz42_0, hfz42_1⟩ := kc2 BK2))
  go_ret
  exact ⟨eqR, bw HB⟩
 have c25b0 : (a0_0 == 3) = true := beq_iff_eq.mpr c25
 have c25b1 : (a0_0 != 3) = false := bne_eq_false_iff_eq.mpr c25
 clear c25
 replace H := iteC H; rcases H with ⟨c26, H⟩ | ⟨c26, H⟩
 · exact absurd H (by simp)
 have c26b0 : (a0_1 == 0) = false := beq_eq_false_iff_ne.mpr c26
 have c26b1 : (a0_1 != 0) = true := bne_iff_ne.mpr c26
 replace H := iteC H; rcases H with ⟨c27, H⟩ | ⟨c27, H⟩
 ·
  have c27b0 : ((Int.tmod a1_0 a0_1) == 0) = true := beq_iff_eq.mpr c27
  have c27b1 : ((Int.tmod a1_0 a0_1) != 0) = false := bne_eq_false_iff_eq.mpr c27
  clear c27
  obtain rfl := Option.some.inj H
  go_enter Try.func34, Try.ntmps34
  go_wp2_with (first | ((with_reducible refine gate_dst (N := 2) rfl ?_); refine boxK HB (N := 2) (cs := #[.int .i64 a0_0, .int .i64 a0_1, .int .i64 a0_2]) (t := 28) (h := ?_); clear HB; intro gb1 hg w28 BK1 GW1 GE1 HB hb; clear hb hg) | ((with_reducible refine gate_dst (N := 3) rfl ?_); refine boxK HB (N := 3) (cs := #[.int .i64 a1_0, .int .i64 a1_1]) (t := 23) (h := ?_); clear HB; intro gb2 hg w29 BK2 GW2 GE2 HB hb; obtain ⟨NB1_2, NB2_1⟩ := nv1 hg BK1; replace BK1 := kb BK1 hb; clear hb hg; have hnb30 := up1 NB1_2; obtain ⟨hcz31_0, hcz31_1, hcz31_2, hfz31_0, hfz31_1, hfz31_2⟩ := kc3 BK1; obtain ⟨hcz32_0, hcz32_1, hfz32_0, hfz32_1⟩ := kc2 BK2))
  go_ret
  exact ⟨eqR, bw HB⟩
 have c27b0 : ((Int.tmod a1_0 a0_1) == 0) = false := beq_eq_false_iff_ne.mpr c27
 have c27b1 : ((Int.tmod a1_0 a0_1) != 0) = true := bne_iff_ne.mpr c27
 obtain rfl := Option.some.inj H
 go_enter Try.func34, Try.ntmps34
 go_wp2_with (first | ((with_reducible refine gate_dst (N := 2) rfl ?_); refine boxK HB (N := 2) (cs := #[.int .i64 a0_0, .int .i64 a0_1, .int .i64 a0_2]) (t := 28) (h := ?_); clear HB; intro gb1 hg w33 BK1 GW1 GE1 HB hb; clear hb hg) | ((with_reducible refine gate_dst (N := 3) rfl ?_); refine boxK HB (N := 3) (cs := #[.int .i64 a1_0, .int .i64 a1_1]) (t := 23) (h := ?_); clear HB; intro gb2 hg w34 BK2 GW2 GE2 HB hb; obtain ⟨NB1_2, NB2_1⟩ := nv1 hg BK1; replace BK1 := kb BK1 hb; clear hb hg; have hnb35 := up1 NB1_2; obtain ⟨hcz36_0, hcz36_1, hcz36_2, hfz36_0, hfz36_1, hfz36_2⟩ := kc3 BK1; obtain ⟨hcz37_0, hcz37_1, hfz37_0, hfz37_1⟩ := kc2 BK2))
 go_ret
 exact ⟨eqR, bw HB⟩

/-! ### impl_MakePuzzle: function 5 -/
mutual
def impl_MakePuzzle.j0 : Nat → Int → Int → Bool → Int → Int → Option ((List (S28)) × Bool)
  | 0, _, _, _, _, _ => none
  | k + 1, x1, x2, x23, x113000, x113001 => if x23 = true then (some (([] : List (S28)), false)) else (impl_MakePuzzle.l0 k x2 x1 0 x113000 x113001 ([] : List (S28)))
def impl_MakePuzzle.l0 : Nat → Int → Int → Int → Int → Int → List (S28) → Option ((List (S28)) × Bool)
  | 0, _, _, _, _, _, _ => none
  | k + 1, x9, x26, x27, x113000, x113001, x118000 => if x27 < x26 then (if (Int.tmod (Int.tmod (wrap64 ((wrap64 (x9 * 227)) + 2027)) 10007) 5) = 0 then (impl_MakePuzzle.j2 k (Int.tmod (wrap64 ((wrap64 ((Int.tmod (wrap64 ((wrap64 (x9 * 227)) + 2027)) 10007) * 227)) + 2027)) 10007) x26 x27 (Int.tmod (Int.tmod (wrap64 ((wrap64 (x9 * 227)) + 2027)) 10007) 5) ((Int.tmod (Int.tmod (wrap64 ((wrap64 (x9 * 227)) + 2027)) 10007) 5) == 0) x113000 x113001 x118000 (Int.tmod (Int.tmod (wrap64 ((wrap64 (x9 * 227)) + 2027)) 10007) 5) 0 0) else (impl_MakePuzzle.j2 k (Int.tmod (wrap64 ((wrap64 ((Int.tmod (wrap64 ((wrap64 (x9 * 227)) + 2027)) 10007) * 227)) + 2027)) 10007) x26 x27 (Int.tmod (Int.tmod (wrap64 ((wrap64 (x9 * 227)) + 2027)) 10007) 5) ((Int.tmod (Int.tmod (wrap64 ((wrap64 (x9 * 227)) + 2027)) 10007) 5) == 1) x113000 x113001 x118000 (Int.tmod (Int.tmod (wrap64 ((wrap64 (x9 * 227)) + 2027)) 10007) 5) 0 0)) else (some (x118000, true))
def impl_MakePuzzle.j2 : Nat → Int → Int → Int → Int → Bool → Int → Int → List (S28) → Int → Int → Int → Option ((List (S28)) × Bool)
  | 0, _, _, _, _, _, _, _, _, _, _, _ => none
  | k + 1, x9, x26, x27, x41, x42, x113000, x113001, x118000, x119000, x119001, x119002 => if x42 = true then ((impl_toldBy.f x119000 (wrap64 ((Int.tmod x9 100) + 1)) x119002 x113000 x113001).bind fun t119 => (if x118000.length < 5864062014805 then (impl_MakePuzzle.l0 k x9 x26 (wrap64 (x27 + 1)) x113000 x113001 (x118000 ++ [(⟨x119000, wrap64 ((Int.tmod x9 100) + 1), t119⟩ : S28)])) else (none))) else (if x41 = 3 then ((impl_toldBy.f x119000 (wrap64 ((Int.tmod x9 8) + 2)) x119002 x113000 x113001).bind fun t123 => (if x118000.length < 5864062014805 then (impl_MakePuzzle.l0 k x9 x26 (wrap64 (x27 + 1)) x113000 x113001 (x118000 ++ [(⟨x119000, wrap64 ((Int.tmod x9 8) + 2), t123⟩ : S28)])) else (none))) else ((impl_toldBy.f x119000 x119001 x119002 x113000 x113001).bind fun t127 => (if x118000.length < 5864062014805 then (impl_MakePuzzle.l0 k x9 x26 (wrap64 (x27 + 1)) x113000 x113001 (x118000 ++ [(⟨x119000, x119001, t127⟩ : S28)])) else (none))))
end
def impl_MakePuzzle.f (k : Nat) (a0_0 : Int) (a0_1 : Int) (a1 : Int) (a2 : Int) : Option ((List (S28)) × Bool) := (impl_isHidden.f a0_0 a0_1).bind fun t114 => (if t114 = true then ((impl_within.f a1 0 6).bind fun t115 => (if t115 = true then ((impl_within.f a2 0 9999).bind fun t116 => (impl_MakePuzzle.j0 k a1 a2 (!t116) a0_0 a0_1)) else (impl_MakePuzzle.j0 k a1 a2 true a0_0 a0_1))) else (impl_MakePuzzle.j0 k a1 a2 true a0_0 a0_1))
set_option maxHeartbeats 8000000 in
set_option maxRecDepth 100000 in
theorem impl_MakePuzzle.calls (k : Nat) (a0_0 : Int) (a0_1 : Int) (a1 : Int) (a2 : Int) (r1 : List (S28)) (r2 : Bool) (w : World) (h : impl_MakePuzzle.f k a0_0 a0_1 a1 a2 = some (r1, r2)) :
    Calls Try.prog 5 #[.agg #[.int .i64 a0_0, .int .i64 a0_1], .int .i64 a1, .int .i64 a2] w fun e w' => ∃ v0_ : Value, e = .returned (.tuple #[.agg #[v0_], .bool r2]) ∧ Kd.R k28 28 w' w.heap.size (fun _ => True) v0_ r1 ∧ Below w.heap.size w w' := by
 have hu23 := Try.underlying23
 have hu26 := Try.underlying26
 have hu28 := Try.underlying28
 have HB := Aside0.mk (Below.refl w.heap.size w)
 have H : ((impl_isHidden.f a0_0 a0_1).bind fun t114 => (if t114 = true then ((impl_within.f a1 0 6).bind fun t115 => (if t115 = true then ((impl_within.f a2 0 9999).bind fun t116 => (impl_MakePuzzle.j0 k a1 a2 (!t116) a0_0 a0_1)) else (impl_MakePuzzle.j0 k a1 a2 true a0_0 a0_1))) else (impl_MakePuzzle.j0 k a1 a2 true a0_0 a0_1))) = some (r1, r2) := h
 clear h
 have HC4 := Aside0.mk H
 clear H
 go_enter Try.func5, Try.ntmps5
 go_upto_region 1 with (first | ((with_reducible refine gate_dst (N := 3) rfl ?_); refine boxK HB (N := 3) (cs := #[.int .i64 a0_0, .int .i64 a0_1]) (t := 23) (h := ?_); clear HB; intro gb1 hg w5 BK1 GW1 GE1 HB hb; clear hb hg) | ((with_reducible refine gate_dst (N := 6) rfl ?_); refine boxK HB (N := 6) (cs := #[.slice none 0 0]) (t := 26) (h := ?_); clear HB; intro gb2 hg w6 BK2 GW2 GE2 HB hb; obtain ⟨NB1_2, NB2_1⟩ := nv1 hg BK1; replace BK1 := kb BK1 hb; clear hb hg))
 (try simp only [Act.put, List.setIfInBounds_toArray, List.set_cons_zero, List.set_cons_succ])
 go_cut [23] (fun v23 wc => ∃ (kq : Nat) (x23_3 : Bool), v23 = .bool x23_3 ∧ Aside0 (impl_MakePuzzle.j0 kq a1 a2 x23_3 a0_0 a0_1 = some (r1, r2)) ∧ Aside0 (kq ≤ k) ∧ Aside0 (wc.heap[gb1]? = some (.cells #[.int .i64 a0_0, .int .i64 a0_1] 23 (0, 0))) ∧ Aside0 (wc.heap[gb2]? = some (.cells #[(.slice none 0 0)] 26 (0, 0))) ∧ Aside0 (Below w.heap.size w wc))
 case first =>
  have H := HC4.out
  clear HC4
  replace H := bindS H; obtain ⟨t114, A7, H⟩ := H
  replace H := iteB H; rcases H with ⟨rfl, H⟩ | ⟨rfl, H⟩
  rotate_left
  ·
   have H' := Aside0.mk H
   clear H
   have hnb18 := up1 NB1_2
   obtain ⟨hcz19_0, hcz19_1, hfz19_0, hfz19_1⟩ := kc2 BK1
   go_wp2_with (first | ((with_reducible refine gate_callee (f := 32) rfl ?_); refine goK (some 12) Try.func32 #[.agg #[.int .i64 a0_0, .int .i64 a0_1]] ?_; (with_reducible refine (impl_isHidden.calls a0_0 a0_1 false _ A7.out).mono ?_); rintro e w20 ⟨rfl, hb⟩; refine ⟨_, rfl, ?_⟩; refine mv2 hb BK1 BK2 ?_; clear BK1 BK2; intro BK1 BK2; replace HB := kw HB hb; (try clear hb)))
   go_meet
   case rel => exact ⟨_, (true), (by first | rfl | (simp; done) | (simp [*]; done)), H', ⟨by first | omega | exact Nat.le_refl _⟩, ⟨bk BK1⟩, ⟨bk BK2⟩, ⟨bw HB⟩⟩
  replace H := bindS H; obtain ⟨t115, A9, H⟩ := H
  replace H := iteB H; rcases H with ⟨rfl, H⟩ | ⟨rfl, H⟩
  ·
   replace H := bindS H; obtain ⟨t116, A11, H⟩ := H
   have H' := Aside0.mk H
   clear H
   have hnb12 := up1 NB1_2
   obtain ⟨hcz13_0, hcz13_1, hfz13_0, hfz13_1⟩ := kc2 BK1
   go_wp2_with (first | ((with_reducible refine gate_callee (f := 32) rfl ?_); refine goK (some 12) Try.func32 #[.agg #[.int .i64 a0_0, .int .i64 a0_1]] ?_; (with_reducible refine (impl_isHidden.calls a0_0 a0_1 true _ A7.out).mono ?_); rintro e w14 ⟨rfl, hb⟩; refine ⟨_, rfl, ?_⟩; refine mv2 hb BK1 BK2 ?_; clear BK1 BK2; intro BK1 BK2; replace HB := kw HB hb; (try clear hb)) | (go_at_call 33; (with_reducible refine (impl_within.calls a1 0 6 true _ A9.out).mono ?_); rintro e w' ⟨rfl, ⟨nd, rfl⟩⟩) | (go_at_call 33; (with_reducible refine (impl_within.calls a2 0 9999 t116 _ A11.out).mono ?_); rintro e w' ⟨rfl, ⟨nd, rfl⟩⟩))
   go_meet
   case rel => exact ⟨_, (!t116), (by first | rfl | (simp; done) | (simp [*]; done)), H', ⟨by first | omega | exact Nat.le_refl _⟩, ⟨bk BK1⟩, ⟨bk BK2⟩, ⟨bw HB⟩⟩
  have H' := Aside0.mk H
  clear H
  have hnb15 := up1 NB1_2
  obtain ⟨hcz16_0, hcz16_1, hfz16_0, hfz16_1⟩ := kc2 BK1
  go_wp2_with (first | ((with_reducible refine gate_callee (f := 32) rfl ?_); refine goK (some 12) Try.func32 #[.agg #[.int .i64 a0_0, .int .i64 a0_1]] ?_; (with_reducible refine (impl_isHidden.calls a0_0 a0_1 true _ A7.out).mono ?_); rintro e w17 ⟨rfl, hb⟩; refine ⟨_, rfl, ?_⟩; refine mv2 hb BK1 BK2 ?_; clear BK1 BK2; intro BK1 BK2; replace HB := kw HB hb; (try clear hb)) | (go_at_call 33; (with_reducible refine (impl_within.calls a1 0 6 false _ A9.out).mono ?_); rintro e w' ⟨rfl, ⟨nd, rfl⟩⟩))
  go_meet
  case rel => exact ⟨_, (true), (by first | rfl | (simp; done) | (simp [*]; done)), H', ⟨by first | omega | exact Nat.le_refl _⟩, ⟨bk BK1⟩, ⟨bk BK2⟩, ⟨bw HB⟩⟩
 case rest =>
  clear HC4
  obtain ⟨kq, x23_3, rfl, HA, HJ3, BK1, BK2, HB⟩ := hcut
  cases kq with
  | zero => exact absurd HA.out (by simp [impl_MakePuzzle.j0])
  | succ kj3 =>
   have H := HA.out
   clear HA
   simp only [impl_MakePuzzle.j0] at H
   replace H := iteB H; rcases H with ⟨rfl, H⟩ | ⟨rfl, H⟩
   ·
    simp only [Option.some.injEq, Prod.mk.injEq] at H
    obtain ⟨rfl, rfl⟩ := H
    have hnb22 := up1 NB2_1
    obtain ⟨hcz23_0, hfz23_0⟩ := kc1 BK2
    go_wp2
    refine bodyPost_ret (results_ct rfl _ _ gb2 26 #[.slice none 0 0] (0, 0) _ rfl (bt BK2) Try.underlying26 rfl (by kernel_rfl)) rfl ?_
    exact ⟨_, eqR, by first | exact Kd.R_nil _ _ _ _ _ | exact Kd.N_nil _ _ _ _ _ | exact Kd.V_nil _ _ _ _ _ | exact Kd.Q_nil _ _ _ _ _ | exact Kd.S_nil _ _ _ _ _, bw HB⟩
   have H' := Aside0.mk H
   clear H
   go_wp2_with (first | ((with_reducible refine gate_dst (N := 8) rfl ?_); refine boxK HB (N := 8) (cs := #[.slice none 0 0]) (t := 26) (h := ?_); clear HB; intro gb3 hg w24 BK3 GW3 GE3 HB hb; obtain ⟨NB1_3, NB3_1, NB2_3, NB3_2⟩ := nv2 hg BK1 BK2; refine mv2 hb BK1 BK2 ?_; clear BK1 BK2; intro BK1 BK2; clear hb hg))
   go_loopg [9, 27] kj3 (fun kq v9 v27 w' => ∃ (x9_2 : Int) (x27_2 : Int) (x118000_2 : List (S28)) (u118000 : Value), v9 = .int .i64 x9_2 ∧ v27 = .int .i64 x27_2 ∧ Aside0 (impl_MakePuzzle.l0 kq x9_2 a1 x27_2 a0_0 a0_1 x118000_2 = some (r1, r2)) ∧ Aside0 (kq ≤ kj3) ∧ Aside0 (Kd.R k28 28 w' w.heap.size (fun _ => True) u118000 x118000_2) ∧ Aside0 (w'.heap[gb1]? = some (.cells #[.int .i64 a0_0, .int .i64 a0_1] 23 (0, 0))) ∧ Aside0 (w'.heap[gb2]? = some (.cells #[(.slice none 0 0)] 26 (0, 0))) ∧ Aside0 (w'.heap[gb3]? = some (.cells #[u118000] 26 (0, 0))) ∧ Aside0 (Below w.heap.size w w'))
   case atStart => exact ⟨(a2), (0), (([] : List (S28))), (.slice none 0 0), (by first | rfl | (simp; done) | (simp [*]; done)), (by first | rfl | (simp; done) | (simp [*]; done)), H', ⟨Nat.le_refl _⟩, ⟨by first | exact Kd.R_nil _ _ _ _ _ | exact Kd.N_nil _ _ _ _ _ | exact Kd.V_nil _ _ _ _ _ | exact Kd.Q_nil _ _ _ _ _ | exact Kd.S_nil _ _ _ _ _⟩, ⟨bk BK1⟩, ⟨bk BK2⟩, ⟨bk BK3⟩, ⟨bw HB⟩⟩
   case round =>
    clear H'
    obtain ⟨x9_2, x27_2, x118000_2, u118000, rfl, rfl, HA, HK2, HO_118000, BK1, BK2, BK3, HB⟩ := hrel
    cases gk with
    | zero => exact absurd HA.out (by simp [impl_MakePuzzle.l0])
    | succ k2 =>
     have H := HA.out
     clear HA
     simp only [impl_MakePuzzle.l0] at H
     replace H := iteC H; rcases H with ⟨c25, H⟩ | ⟨c25, H⟩
     rotate_left
     ·
      have c25b0 : decide (x27_2 < a1) = false := decide_eq_false c25
      clear c25
      simp only [Option.some.injEq, Prod.mk.injEq] at H
      obtain ⟨rfl, rfl⟩ := H
      have hnb83 := up2 NB3_1 NB3_2
      obtain ⟨hcz85_0, hfz85_0⟩ := kc1 BK3
      obtain ⟨Ao86, co86, eo86⟩ := Kd.R_slice HO_118000.out
      subst eo86
      have hnb87 := up1 NB2_1
      obtain ⟨hcz88_0, hfz88_0⟩ := kc1 BK2
      go_wp2
      refine bodyPost_ret (results_ct rfl _ _ gb2 26 #[.slice Ao86 x118000_2.length co86] (0, 0) _ rfl (bt BK2) Try.underlying26 rfl (by kernel_rfl)) rfl ?_
      exact ⟨_, eqR, by (with_reducible repeat (first | apply Kd.R_alloc | apply Kd.R_drewN | apply Kd.R_drew)); exact Kd.R_mono (Kd.R_far (p := ⟨gb2, 0, none⟩) (Kd.R_types HO_118000.out BK2.out (by decide)) (fun _ hk => hk.2) (.slice Ao86 x118000_2.length co86)) (fun _ hk => trivial), bw HB⟩
     have c25b0 : decide (x27_2 < a1) = true := decide_eq_true c25
     clear c25
     have HC26 := Aside0.mk H
     clear H
     go_upto_if 42 with (first | ((with_reducible refine gate_dst (N := 10) rfl ?_); refine boxK HB (N := 10) (cs := #[.int .i64 0, .int .i64 0, .int .i64 0]) (t := 28) (h := ?_); clear HB; intro gb4 hg w27 BK4 GW4 GE4 HB hb; replace HO_118000 := Aside0.mk (Kd.R_below (Kd.R_elderB (ro HO_118000) gb4 (Nat.le_of_eq hg.symm)) hb); obtain ⟨NB1_4, NB4_1, NB2_4, NB4_2, NB3_4, NB4_3⟩ := nv3 hg BK1 BK2 BK3; refine mv3 hb BK1 BK2 BK3 ?_; clear BK1 BK2 BK3; intro BK1 BK2 BK3; clear hb hg; have hnb28 := up3 NB4_1 NB4_2 NB4_3; obtain ⟨hcz31_0, hcz31_1, hcz31_2, hfz31_0, hfz31_1, hfz31_2⟩ := kc3 BK4))
     (try simp only [Act.put, List.setIfInBounds_toArray, List.set_cons_zero, List.set_cons_succ])
     go_cut [42] (fun v42 wc => ∃ (kq : Nat) (x42_25 : Bool), v42 = .bool x42_25 ∧ Aside0 (impl_MakePuzzle.j2 kq (Int.tmod (wrap64 ((wrap64 ((Int.tmod (wrap64 ((wrap64 (x9_2 * 227)) + 2027)) 10007) * 227)) + 2027)) 10007) a1 x27_2 (Int.tmod (Int.tmod (wrap64 ((wrap64 (x9_2 * 227)) + 2027)) 10007) 5) x42_25 a0_0 a0_1 x118000_2 (Int.tmod (Int.tmod (wrap64 ((wrap64 (x9_2 * 227)) + 2027)) 10007) 5) 0 0 = some (r1, r2)) ∧ Aside0 (kq ≤ k2) ∧ Aside0 (Kd.R k28 28 wc w.heap.size (fun k_ => k_ ≠ gb4) u118000 x118000_2) ∧ Aside0 (wc.heap[gb1]? = some (.cells #[.int .i64 a0_0, .int .i64 a0_1] 23 (0, 0))) ∧ Aside0 (wc.heap[gb2]? = some (.cells #[(.slice none 0 0)] 26 (0, 0))) ∧ Aside0 (wc.heap[gb3]? = some (.cells #[u118000] 26 (0, 0))) ∧ Aside0 (wc.heap[gb4]? = some (.cells #[.int .i64 (Int.tmod (Int.tmod (wrap64 ((wrap64 (x9_2 * 227)) + 2027)) 10007) 5), .int .i64 0, .int .i64 0] 28 (0, 0))) ∧ Aside0 (Below w.heap.size w wc))
     case first =>
      have H := HC26.out
      clear HC26
      replace H := iteC H; rcases H with ⟨c32, H⟩ | ⟨c32, H⟩
      ·
       have c32b0 : ((Int.tmod (Int.tmod (wrap64 ((wrap64 (x9_2 * 227)) + 2027)) 10007) 5) == 0) = true := beq_iff_eq.mpr c32
       have c32b1 : ((Int.tmod (Int.tmod (wrap64 ((wrap64 (x9_2 * 227)) + 2027)) 10007) 5) != 0) = false := bne_eq_false_iff_eq.mpr c32
       clear c32
       (first | rw [c32b0] | (simp only [i64_w, i32_w]; rw [c32b0]) | skip)
       have H' := Aside0.mk H
       clear H
       go_wp2
       go_meet
       case rel => exact ⟨_, (((Int.tmod (Int.tmod (wrap64 ((wrap64 (x9_2 * 227)) + 2027)) 10007) 5) == 0)), (by first | rfl | (simp; done) | (simp [*]; done)), H', ⟨by have := HJ3.out; have := HK2.out; first | omega | exact Nat.le_refl _⟩, ⟨by (with_reducible repeat (first | apply Kd.R_alloc | apply Kd.R_drewN | apply Kd.R_drew)); exact Kd.R_mono (Kd.R_far (p := ⟨gb4, 2, none⟩) (Kd.R_far (p := ⟨gb4, 1, none⟩) (Kd.R_far (p := ⟨gb4, 0, none⟩) (Kd.R_mono HO_118000.out (fun k_ hk => (⟨hk, hk.2⟩ : _ ∧ k_ ≠ gb4))) (fun _ hk => hk.2) (.int .i64 (Int.tmod (Int.tmod (wrap64 ((wrap64 (x9_2 * 227)) + 2027)) 10007) 5))) (fun _ hk => hk.2) (.int .i64 0)) (fun _ hk => hk.2) (.int .i64 0)) (fun _ hk => hk.1.2)⟩, ⟨bt BK1⟩, ⟨bt BK2⟩, ⟨bt BK3⟩, ⟨by (with_reducible repeat (first | refine blk_drewN ?_ _ | refine blk_drew ?_ | refine blk_alloc ?_ _)); refine blk_put (cs := #[.int .i64 (Int.tmod (Int.tmod (wrap64 ((wrap64 (x9_2 * 227)) + 2027)) 10007) 5), .int .i64 0, .int .i64 0]) ?_ 2 _ rfl; (with_reducible repeat (first | refine blk_drewN ?_ _ | refine blk_drew ?_ | refine blk_alloc ?_ _)); refine blk_put (cs := #[.int .i64 (Int.tmod (Int.tmod (wrap64 ((wrap64 (x9_2 * 227)) + 2027)) 10007) 5), .int .i64 0, .int .i64 0]) ?_ 1 _ rfl; (with_reducible repeat (first | refine blk_drewN ?_ _ | refine blk_drew ?_ | refine blk_alloc ?_ _)); refine blk_put (cs := #[.int .i64 0, .int .i64 0, .int .i64 0]) ?_ 0 _ rfl; (with_reducible repeat (first | refine blk_drewN ?_ _ | refine blk_drew ?_ | refine blk_alloc ?_ _)); exact BK4.out⟩, ⟨bw HB⟩⟩
      have c32b0 : ((Int.tmod (Int.tmod (wrap64 ((wrap64 (x9_2 * 227)) + 2027)) 10007) 5) == 0) = false := beq_eq_false_iff_ne.mpr c32
      have c32b1 : ((Int.tmod (Int.tmod (wrap64 ((wrap64 (x9_2 * 227)) + 2027)) 10007) 5) != 0) = true := bne_iff_ne.mpr c32
      (first | rw [c32b0] | (simp only [i64_w, i32_w]; rw [c32b0]) | skip)
      have H' := Aside0.mk H
      clear H
      go_wp2
      go_meet
      case rel => exact ⟨_, (((Int.tmod (Int.tmod (wrap64 ((wrap64 (x9_2 * 227)) + 2027)) 10007) 5) == 1)), (by first | rfl | (simp; done) | (simp [*]; done)), H', ⟨by have := HJ3.out; have := HK2.out; first | omega | exact Nat.le_refl _⟩, ⟨by (with_reducible repeat (first | apply Kd.R_alloc | apply Kd.R_drewN | apply Kd.R_drew)); exact Kd.R_mono (Kd.R_far (p := ⟨gb4, 2, none⟩) (Kd.R_far (p := ⟨gb4, 1, none⟩) (Kd.R_far (p := ⟨gb4, 0, none⟩) (Kd.R_mono HO_118000.out (fun k_ hk => (⟨hk, hk.2⟩ : _ ∧ k_ ≠ gb4))) (fun _ hk => hk.2) (.int .i64 (Int.tmod (Int.tmod (wrap64 ((wrap64 (x9_2 * 227)) + 2027)) 10007) 5))) (fun _ hk => hk.2) (.int .i64 0)) (fun _ hk => hk.2) (.int .i64 0)) (fun _ hk => hk.1.2)⟩, ⟨bt BK1⟩, ⟨bt BK2⟩, ⟨bt BK3⟩, ⟨by (with_reducible repeat (first | refine blk_drewN ?_ _ | refine blk_drew ?_ | refine blk_alloc ?_ _)); refine blk_put (cs := #[.int .i64 (Int.tmod (Int.tmod (wrap64 ((wrap64 (x9_2 * 227)) + 2027)) 10007) 5), .int .i64 0, .int .i64 0]) ?_ 2 _ rfl; (with_reducible repeat (first | refine blk_drewN ?_ _ | refine blk_drew ?_ | refine blk_alloc ?_ _)); refine blk_put (cs := #[.int .i64 (Int.tmod (Int.tmod (wrap64 ((wrap64 (x9_2 * 227)) + 2027)) 10007) 5), .int .i64 0, .int .i64 0]) ?_ 1 _ rfl; (with_reducible repeat (first | refine blk_drewN ?_ _ | refine blk_drew ?_ | refine blk_alloc ?_ _)); refine blk_put (cs := #[.int .i64 0, .int .i64 0, .int .i64 0]) ?_ 0 _ rfl; (with_reducible repeat (first | refine blk_drewN ?_ _ | refine blk_drew ?_ | refine blk_alloc ?_ _)); exact BK4.out⟩, ⟨bw HB⟩⟩
     case rest =>
      clear HC26
      try clear c25
      try clear c25b0
      try clear hcz31_0
      try clear hcz31_1
      try clear hcz31_2
      try clear hfz31_0
      try clear hfz31_1
      try clear hfz31_2
      obtain ⟨kq, x42_25, rfl, HA, HJ25, HO_118000, BK1, BK2, BK3, BK4, HB⟩ := hcut
      cases kq with
      | zero => exact absurd HA.out (by simp [impl_MakePuzzle.j2])
      | succ kj25 =>
       have H := HA.out
       clear HA
       simp only [impl_MakePuzzle.j2] at H
       replace H := iteB H; rcases H with ⟨rfl, H⟩ | ⟨rfl, H⟩
       ·
        replace H := bindS H; obtain ⟨t119, A34, H⟩ := H
        replace H := iteS H; obtain ⟨c35, H⟩ := H
        have LMc35 := Aside0.mk c35
        clear c35
        obtain ⟨y120, hy120⟩ : ∃ y_ : List (S28), y_ = (x118000_2 ++ [(⟨(Int.tmod (Int.tmod (wrap64 ((wrap64 (x9_2 * 227)) + 2027)) 10007) 5), wrap64 ((Int.tmod (Int.tmod (wrap64 ((wrap64 ((Int.tmod (wrap64 ((wrap64 (x9_2 * 227)) + 2027)) 10007) * 227)) + 2027)) 10007) 100) + 1), t119⟩ : S28)]) := ⟨_, rfl⟩
        replace H : (impl_MakePuzzle.l0 kj25 (Int.tmod (wrap64 ((wrap64 ((Int.tmod (wrap64 ((wrap64 (x9_2 * 227)) + 2027)) 10007) * 227)) + 2027)) 10007) a1 (wrap64 (x27_2 + 1)) a0_0 a0_1 y120) = some (r1, r2) := by first | (rw [hy120]; with_reducible exact H) | (have H2_ := (Option.bind_some _ _).symm.trans H; first | (rw [hy120]; with_reducible exact H2_) | with_reducible exact H2_) | with_reducible exact H | (rw [hy120]; exact H) | exact H
        have Ny120 := Aside0.mk hy120
        clear hy120
        have H' := Aside0.mk H
        clear H
        have hnb36 := up3 NB4_1 NB4_2 NB4_3
        have hcz39_0 : wc.cell? ⟨gb4, 0, none⟩ = some (.int .i64 (Int.tmod (Int.tmod (wrap64 ((wrap64 (x9_2 * 227)) + 2027)) 10007) 5)) := bc BK4 0
        have hcz39_1 : wc.cell? ⟨gb4, 1, none⟩ = some (.int .i64 0) := bc BK4 1
        have hcz39_2 : wc.cell? ⟨gb4, 2, none⟩ = some (.int .i64 0) := bc BK4 2
        have hfz39_0 := blk_frozen BK4.out 0
        have hfz39_1 := blk_frozen BK4.out 1
        have hfz39_2 := blk_frozen BK4.out 2
        have hnb40 := up2 NB1_2 NB1_3
        obtain ⟨hcz42_0, hcz42_1, hfz42_0, hfz42_1⟩ := kc2 BK1
        go_wp2_with (first | ((with_reducible refine gate_callee (f := 34) rfl ?_); refine goesL_ (some 57) rfl rfl Try.func34 (by kernel_rfl) rfl #[.agg #[.int .i64 (Int.tmod (Int.tmod (wrap64 ((wrap64 (x9_2 * 227)) + 2027)) 10007) 5), .int .i64 (wrap64 ((Int.tmod (Int.tmod (wrap64 ((wrap64 ((Int.tmod (wrap64 ((wrap64 (x9_2 * 227)) + 2027)) 10007) * 227)) + 2027)) 10007) 100) + 1)), .int .i64 0], .agg #[.int .i64 a0_0, .int .i64 a0_1]] rfl argR ?_; (with_reducible refine (impl_toldBy.calls (Int.tmod (Int.tmod (wrap64 ((wrap64 (x9_2 * 227)) + 2027)) 10007) 5) (wrap64 ((Int.tmod (Int.tmod (wrap64 ((wrap64 ((Int.tmod (wrap64 ((wrap64 (x9_2 * 227)) + 2027)) 10007) * 227)) + 2027)) 10007) 100) + 1)) 0 a0_0 a0_1 t119 _ A34.out).mono ?_); rintro e w43 ⟨rfl, hb⟩; refine ⟨_, rfl, ?_⟩; replace HO_118000 := Aside0.mk (Kd.R_below (by (with_reducible repeat (first | apply Kd.R_alloc | apply Kd.R_drewN | apply Kd.R_drew)); exact (Kd.R_mono (Kd.R_far (p := ⟨gb4, 1, none⟩) (Kd.R_mono HO_118000.out (fun k_ hk => (⟨hk, hk⟩ : _ ∧ k_ ≠ gb4))) (fun _ hk => hk.2) (.int .i64 (wrap64 ((Int.tmod (Int.tmod (wrap64 ((wrap64 ((Int.tmod (wrap64 ((wrap64 (x9_2 * 227)) + 2027)) 10007) * 227)) + 2027)) 10007) 100) + 1)))) (fun _ h_ => h_.1))) hb); replace BK1 := kbf BK1 NB1_4 hb; replace BK2 := kbf BK2 NB2_4 hb; replace BK3 := kbf BK3 NB3_4 hb; replace BK4 := Aside0.mk (blk_below (g := gb4) (o := .cells #[.int .i64 (Int.tmod (Int.tmod (wrap64 ((wrap64 (x9_2 * 227)) + 2027)) 10007) 5), .int .i64 (wrap64 ((Int.tmod (Int.tmod (wrap64 ((wrap64 ((Int.tmod (wrap64 ((wrap64 (x9_2 * 227)) + 2027)) 10007) * 227)) + 2027)) 10007) 100) + 1)), .int .i64 0] 28 (0, 0)) (by (with_reducible repeat (first | refine blk_drewN ?_ _ | refine blk_drew ?_ | refine blk_alloc ?_ _)); refine blk_put (cs := #[.int .i64 (Int.tmod (Int.tmod (wrap64 ((wrap64 (x9_2 * 227)) + 2027)) 10007) 5), .int .i64 0, .int .i64 0]) ?_ 1 _ rfl; (with_reducible repeat (first | refine blk_drewN ?_ _ | refine blk_drew ?_ | refine blk_alloc ?_ _)); exact BK4.out) hb); replace HB := kw HB hb; (try clear hb); (try clear hk); have hcz44_0 : w43.cell? ⟨gb4, 0, none⟩ = some (.int .i64 (Int.tmod (Int.tmod (wrap64 ((wrap64 (x9_2 * 227)) + 2027)) 10007) 5)) := bc BK4 0; have hcz44_1 : w43.cell? ⟨gb4, 1, none⟩ = some (.int .i64 (wrap64 ((Int.tmod (Int.tmod (wrap64 ((wrap64 ((Int.tmod (wrap64 ((wrap64 (x9_2 * 227)) + 2027)) 10007) * 227)) + 2027)) 10007) 100) + 1))) := bc BK4 1; have hcz44_2 : w43.cell? ⟨gb4, 2, none⟩ = some (.int .i64 0) := bc BK4 2; have hfz44_0 := blk_frozen BK4.out 0; have hfz44_1 := blk_frozen BK4.out 1; have hfz44_2 := blk_frozen BK4.out 2; have hnb45 := up1 NB3_2; obtain ⟨hcz46_0, hfz46_0⟩ := kc1 BK3) | ((with_reducible refine gate_builtin (b := .append) (xs := #[.tmp 60, .tmp 62]) rfl ?_); at_builtin; refine Kd.R_append k28 (w0 := w) w.heap.size rfl (.tmp 60) (.tmp 62) 24 28 (.agg #[(.int .i64 0), (.int .i64 0), (.int .i64 0)]) 24 rfl Try.underlying24 info28 rfl (by decide) (by omega) u118000 x118000_2 (⟨(Int.tmod (Int.tmod (wrap64 ((wrap64 (x9_2 * 227)) + 2027)) 10007) 5), wrap64 ((Int.tmod (Int.tmod (wrap64 ((wrap64 ((Int.tmod (wrap64 ((wrap64 (x9_2 * 227)) + 2027)) 10007) * 227)) + 2027)) 10007) 100) + 1), t119⟩ : S28) [.int .i64 (Int.tmod (Int.tmod (wrap64 ((wrap64 (x9_2 * 227)) + 2027)) 10007) 5), .int .i64 (wrap64 ((Int.tmod (Int.tmod (wrap64 ((wrap64 ((Int.tmod (wrap64 ((wrap64 (x9_2 * 227)) + 2027)) 10007) * 227)) + 2027)) 10007) 100) + 1)), .int .i64 t119] (fun k_ => k_ ≠ gb4) (fun _ => False) rfl (by first | (go_simp; done) | (go_simp; rfl)) ?aP (fun _ hk => hk.elim) ?aF ?aO ?aB ?aS ?aL ?_; (case aP => exact k28_mkM _ _ _ (⟨(Int.tmod (Int.tmod (wrap64 ((wrap64 (x9_2 * 227)) + 2027)) 10007) 5), wrap64 ((Int.tmod (Int.tmod (wrap64 ((wrap64 ((Int.tmod (wrap64 ((wrap64 (x9_2 * 227)) + 2027)) 10007) * 227)) + 2027)) 10007) 100) + 1), t119⟩ : S28)); (case aB => exact (bw HB)); (case aF => exact (fun k_ hk => Kd.freshB (g := gb4) (o := .cells #[.int .i64 (Int.tmod (Int.tmod (wrap64 ((wrap64 (x9_2 * 227)) + 2027)) 10007) 5), .int .i64 (wrap64 ((Int.tmod (Int.tmod (wrap64 ((wrap64 ((Int.tmod (wrap64 ((wrap64 (x9_2 * 227)) + 2027)) 10007) * 227)) + 2027)) 10007) 100) + 1)), .int .i64 t119] 28 (0, 0)) (by (with_reducible repeat (first | refine blk_drewN ?_ _ | refine blk_drew ?_ | refine blk_alloc ?_ _)); refine blk_put (cs := #[.int .i64 (Int.tmod (Int.tmod (wrap64 ((wrap64 (x9_2 * 227)) + 2027)) 10007) 5), .int .i64 (wrap64 ((Int.tmod (Int.tmod (wrap64 ((wrap64 ((Int.tmod (wrap64 ((wrap64 (x9_2 * 227)) + 2027)) 10007) * 227)) + 2027)) 10007) 100) + 1)), .int .i64 0]) ?_ 2 _ rfl; (with_reducible repeat (first | refine blk_drewN ?_ _ | refine blk_drew ?_ | refine blk_alloc ?_ _)); exact BK4.out) k_ hk)); (case aO => exact (by (with_reducible repeat (first | apply Kd.R_alloc | apply Kd.R_drewN | apply Kd.R_drew)); exact Kd.R_mono (Kd.R_far (p := ⟨gb4, 2, none⟩) (Kd.R_mono HO_118000.out (fun k_ hk => (⟨hk, hk⟩ : _ ∧ k_ ≠ gb4))) (fun _ hk => hk.2) (.int .i64 t119)) (fun _ hk => hk.1))); (case aS => exact (below_size (bw HB))); (case aL => have := LMc35.out; omega); intro v121 w47 ho hb hg hat; rw [← Ny120.out] at ho; replace BK1 := Aside0.mk (blk_grown (bf BK1 NB1_4) hg (Kd.R_ne HO_118000.out BK1.out (by decide))); replace BK2 := Aside0.mk (blk_grown (bf BK2 NB2_4) hg (Kd.R_ne HO_118000.out BK2.out (by decide))); replace BK3 := Aside0.mk (blk_grown (bf BK3 NB3_4) hg (Kd.R_ne HO_118000.out BK3.out (by decide))); replace BK4 := Aside0.mk (blk_grown (g := gb4) (o := .cells #[.int .i64 (Int.tmod (Int.tmod (wrap64 ((wrap64 (x9_2 * 227)) + 2027)) 10007) 5), .int .i64 (wrap64 ((Int.tmod (Int.tmod (wrap64 ((wrap64 ((Int.tmod (wrap64 ((wrap64 (x9_2 * 227)) + 2027)) 10007) * 227)) + 2027)) 10007) 100) + 1)), .int .i64 t119] 28 (0, 0)) (by (with_reducible repeat (first | refine blk_drewN ?_ _ | refine blk_drew ?_ | refine blk_alloc ?_ _)); refine blk_put (cs := #[.int .i64 (Int.tmod (Int.tmod (wrap64 ((wrap64 (x9_2 * 227)) + 2027)) 10007) 5), .int .i64 (wrap64 ((Int.tmod (Int.tmod (wrap64 ((wrap64 ((Int.tmod (wrap64 ((wrap64 (x9_2 * 227)) + 2027)) 10007) * 227)) + 2027)) 10007) 100) + 1)), .int .i64 0]) ?_ 2 _ rfl; (with_reducible repeat (first | refine blk_drewN ?_ _ | refine blk_drew ?_ | refine blk_alloc ?_ _)); exact BK4.out) hg (Kd.R_away HO_118000.out (fun _ hk => hk))); replace HB := Aside0.mk (hb); have HO122 := Aside0.mk (ho); clear HO_118000; clear ho hb hg hat; obtain ⟨Ao48, co48, eo48⟩ := Kd.R_slice HO122.out; subst eo48; obtain ⟨hcz49_0, hfz49_0⟩ := kc1 BK3))
        go_roundg kj25
        case measure => have := HJ3.out; have := HK2.out; have := HJ25.out; omega
        case rel => exact ⟨((Int.tmod (wrap64 ((wrap64 ((Int.tmod (wrap64 ((wrap64 (x9_2 * 227)) + 2027)) 10007) * 227)) + 2027)) 10007)), (wrap64 (x27_2 + 1)), (y120), (.slice Ao48 y120.length co48), (by first | rfl | (simp; done) | (simp [*]; done)), (by first | rfl | (simp; done) | (simp [*]; done)), H', ⟨by have := HJ3.out; have := HK2.out; have := HJ25.out; omega⟩, ⟨by (with_reducible repeat (first | apply Kd.R_alloc | apply Kd.R_drewN | apply Kd.R_drew)); exact Kd.R_mono (Kd.R_far (p := ⟨gb3, 0, none⟩) (Kd.R_types HO122.out BK3.out (by decide)) (fun _ hk => hk.2) (.slice Ao48 y120.length co48)) (fun _ hk => trivial)⟩, ⟨bf BK1 NB1_3⟩, ⟨bf BK2 NB2_3⟩, ⟨bt BK3⟩, ⟨bw HB⟩⟩
       replace H := iteC H; rcases H with ⟨c50, H⟩ | ⟨c50, H⟩
       ·
        have c50b0 : ((Int.tmod (Int.tmod (wrap64 ((wrap64 (x9_2 * 227)) + 2027)) 10007) 5) == 3) = true := beq_iff_eq.mpr c50
        have c50b1 : ((Int.tmod (Int.tmod (wrap64 ((wrap64 (x9_2 * 227)) + 2027)) 10007) 5) != 3) = false := bne_eq_false_iff_eq.mpr c50
        clear c50
        replace H := bindS H; obtain ⟨t123, A51, H⟩ := H
        replace H := iteS H; obtain ⟨c52, H⟩ := H
        have LMc52 := Aside0.mk c52
        clear c52
        obtain ⟨y124, hy124⟩ : ∃ y_ : List (S28), y_ = (x118000_2 ++ [(⟨(Int.tmod (Int.tmod (wrap64 ((wrap64 (x9_2 * 227)) + 2027)) 10007) 5), wrap64 ((Int.tmod (Int.tmod (wrap64 ((wrap64 ((Int.tmod (wrap64 ((wrap64 (x9_2 * 227)) + 2027)) 10007) * 227)) + 2027)) 10007) 8) + 2), t123⟩ : S28)]) := ⟨_, rfl⟩
        replace H : (impl_MakePuzzle.l0 kj25 (Int.tmod (wrap64 ((wrap64 ((Int.tmod (wrap64 ((wrap64 (x9_2 * 227)) + 2027)) 10007) * 227)) + 2027)) 10007) a1 (wrap64 (x27_2 + 1)) a0_0 a0_1 y124) = some (r1, r2) := by first | (rw [hy124]; with_reducible exact H) | (have H2_ := (Option.bind_some _ _).symm.trans H; first | (rw [hy124]; with_reducible exact H2_) | with_reducible exact H2_) | with_reducible exact H | (rw [hy124]; exact H) | exact H
        have Ny124 := Aside0.mk hy124
        clear hy124
        have H' := Aside0.mk H
        clear H
        have hnb53 := up3 NB4_1 NB4_2 NB4_3
        have hcz56_0 : wc.cell? ⟨gb4, 0, none⟩ = some (.int .i64 (Int.tmod (Int.tmod (wrap64 ((wrap64 (x9_2 * 227)) + 2027)) 10007) 5)) := bc BK4 0
        have hcz56_1 : wc.cell? ⟨gb4, 1, none⟩ = some (.int .i64 0) := bc BK4 1
        have hcz56_2 : wc.cell? ⟨gb4, 2, none⟩ = some (.int .i64 0) := bc BK4 2
        have hfz56_0 := blk_frozen BK4.out 0
        have hfz56_1 := blk_frozen BK4.out 1
        have hfz56_2 := blk_frozen BK4.out 2
        have hnb57 := up2 NB1_2 NB1_3
        obtain ⟨hcz59_0, hcz59_1, hfz59_0, hfz59_1⟩ := kc2 BK1
        go_wp2_with (first | ((with_reducible refine gate_callee (f := 34) rfl ?_); refine goesL_ (some 57) rfl rfl Try.func34 (by kernel_rfl) rfl #[.agg #[.int .i64 (Int.tmod (Int.tmod (wrap64 ((wrap64 (x9_2 * 227)) + 2027)) 10007) 5), .int .i64 (wrap64 ((Int.tmod (Int.tmod (wrap64 ((wrap64 ((Int.tmod (wrap64 ((wrap64 (x9_2 * 227)) + 2027)) 10007) * 227)) + 2027)) 10007) 8) + 2)), .int .i64 0], .agg #[.int .i64 a0_0, .int .i64 a0_1]] rfl argR ?_; (with_reducible refine (impl_toldBy.calls (Int.tmod (Int.tmod (wrap64 ((wrap64 (x9_2 * 227)) + 2027)) 10007) 5) (wrap64 ((Int.tmod (Int.tmod (wrap64 ((wrap64 ((Int.tmod (wrap64 ((wrap64 (x9_2 * 227)) + 2027)) 10007) * 227)) + 2027)) 10007) 8) + 2)) 0 a0_0 a0_1 t123 _ A51.out).mono ?_); rintro e w60 ⟨rfl, hb⟩; refine ⟨_, rfl, ?_⟩; replace HO_118000 := Aside0.mk (Kd.R_below (by (with_reducible repeat (first | apply Kd.R_alloc | apply Kd.R_drewN | apply Kd.R_drew)); exact (Kd.R_mono (Kd.R_far (p := ⟨gb4, 1, none⟩) (Kd.R_mono HO_118000.out (fun k_ hk => (⟨hk, hk⟩ : _ ∧ k_ ≠ gb4))) (fun _ hk => hk.2) (.int .i64 (wrap64 ((Int.tmod (Int.tmod (wrap64 ((wrap64 ((Int.tmod (wrap64 ((wrap64 (x9_2 * 227)) + 2027)) 10007) * 227)) + 2027)) 10007) 8) + 2)))) (fun _ h_ => h_.1))) hb); replace BK1 := kbf BK1 NB1_4 hb; replace BK2 := kbf BK2 NB2_4 hb; replace BK3 := kbf BK3 NB3_4 hb; replace BK4 := Aside0.mk (blk_below (g := gb4) (o := .cells #[.int .i64 (Int.tmod (Int.tmod (wrap64 ((wrap64 (x9_2 * 227)) + 2027)) 10007) 5), .int .i64 (wrap64 ((Int.tmod (Int.tmod (wrap64 ((wrap64 ((Int.tmod (wrap64 ((wrap64 (x9_2 * 227)) + 2027)) 10007) * 227)) + 2027)) 10007) 8) + 2)), .int .i64 0] 28 (0, 0)) (by (with_reducible repeat (first | refine blk_drewN ?_ _ | refine blk_drew ?_ | refine blk_alloc ?_ _)); refine blk_put (cs := #[.int .i64 (Int.tmod (Int.tmod (wrap64 ((wrap64 (x9_2 * 227)) + 2027)) 10007) 5), .int .i64 0, .int .i64 0]) ?_ 1 _ rfl; (with_reducible repeat (first | refine blk_drewN ?_ _ | refine blk_drew ?_ | refine blk_alloc ?_ _)); exact BK4.out) hb); replace HB := kw HB hb; (try clear hb); (try clear hk); have hcz61_0 : w60.cell? ⟨gb4, 0, none⟩ = some (.int .i64 (Int.tmod (Int.tmod (wrap64 ((wrap64 (x9_2 * 227)) + 2027)) 10007) 5)) := bc BK4 0; have hcz61_1 : w60.cell? ⟨gb4, 1, none⟩ = some (.int .i64 (wrap64 ((Int.tmod (Int.tmod (wrap64 ((wrap64 ((Int.tmod (wrap64 ((wrap64 (x9_2 * 227)) + 2027)) 10007) * 227)) + 2027)) 10007) 8) + 2))) := bc BK4 1; have hcz61_2 : w60.cell? ⟨gb4, 2, none⟩ = some (.int .i64 0) := bc BK4 2; have hfz61_0 := blk_frozen BK4.out 0; have hfz61_1 := blk_frozen BK4.out 1; have hfz61_2 := blk_frozen BK4.out 2; have hnb62 := up1 NB3_2; obtain ⟨hcz63_0, hfz63_0⟩ := kc1 BK3) | ((with_reducible refine gate_builtin (b := .append) (xs := #[.tmp 60, .tmp 62]) rfl ?_); at_builtin; refine Kd.R_append k28 (w0 := w) w.heap.size rfl (.tmp 60) (.tmp 62) 24 28 (.agg #[(.int .i64 0), (.int .i64 0), (.int .i64 0)]) 24 rfl Try.underlying24 info28 rfl (by decide) (by omega) u118000 x118000_2 (⟨(Int.tmod (Int.tmod (wrap64 ((wrap64 (x9_2 * 227)) + 2027)) 10007) 5), wrap64 ((Int.tmod (Int.tmod (wrap64 ((wrap64 ((Int.tmod (wrap64 ((wrap64 (x9_2 * 227)) + 2027)) 10007) * 227)) + 2027)) 10007) 8) + 2), t123⟩ : S28) [.int .i64 (Int.tmod (Int.tmod (wrap64 ((wrap64 (x9_2 * 227)) + 2027)) 10007) 5), .int .i64 (wrap64 ((Int.tmod (Int.tmod (wrap64 ((wrap64 ((Int.tmod (wrap64 ((wrap64 (x9_2 * 227)) + 2027)) 10007) * 227)) + 2027)) 10007) 8) + 2)), .int .i64 t123] (fun k_ => k_ ≠ gb4) (fun _ => False) rfl (by first | (go_simp; done) | (go_simp; rfl)) ?aP (fun _ hk => hk.elim) ?aF ?aO ?aB ?aS ?aL ?_; (case aP => exact k28_mkM _ _ _ (⟨(Int.tmod (Int.tmod (wrap64 ((wrap64 (x9_2 * 227)) + 2027)) 10007) 5), wrap64 ((Int.tmod (Int.tmod (wrap64 ((wrap64 ((Int.tmod (wrap64 ((wrap64 (x9_2 * 227)) + 2027)) 10007) * 227)) + 2027)) 10007) 8) + 2), t123⟩ : S28)); (case aB => exact (bw HB)); (case aF => exact (fun k_ hk => Kd.freshB (g := gb4) (o := .cells #[.int .i64 (Int.tmod (Int.tmod (wrap64 ((wrap64 (x9_2 * 227)) + 2027)) 10007) 5), .int .i64 (wrap64 ((Int.tmod (Int.tmod (wrap64 ((wrap64 ((Int.tmod (wrap64 ((wrap64 (x9_2 * 227)) + 2027)) 10007) * 227)) + 2027)) 10007) 8) + 2)), .int .i64 t123] 28 (0, 0)) (by (with_reducible repeat (first | refine blk_drewN ?_ _ | refine blk_drew ?_ | refine blk_alloc ?_ _)); refine blk_put (cs := #[.int .i64 (Int.tmod (Int.tmod (wrap64 ((wrap64 (x9_2 * 227)) + 2027)) 10007) 5), .int .i64 (wrap64 ((Int.tmod (Int.tmod (wrap64 ((wrap64 ((Int.tmod (wrap64 ((wrap64 (x9_2 * 227)) + 2027)) 10007) * 227)) + 2027)) 10007) 8) + 2)), .int .i64 0]) ?_ 2 _ rfl; (with_reducible repeat (first | refine blk_drewN ?_ _ | refine blk_drew ?_ | refine blk_alloc ?_ _)); exact BK4.out) k_ hk)); (case aO => exact (by (with_reducible repeat (first | apply Kd.R_alloc | apply Kd.R_drewN | apply Kd.R_drew)); exact Kd.R_mono (Kd.R_far (p := ⟨gb4, 2, none⟩) (Kd.R_mono HO_118000.out (fun k_ hk => (⟨hk, hk⟩ : _ ∧ k_ ≠ gb4))) (fun _ hk => hk.2) (.int .i64 t123)) (fun _ hk => hk.1))); (case aS => exact (below_size (bw HB))); (case aL => have := LMc52.out; omega); intro v125 w64 ho hb hg hat; rw [← Ny124.out] at ho; replace BK1 := Aside0.mk (blk_grown (bf BK1 NB1_4) hg (Kd.R_ne HO_118000.out BK1.out (by decide))); replace BK2 := Aside0.mk (blk_grown (bf BK2 NB2_4) hg (Kd.R_ne HO_118000.out BK2.out (by decide))); replace BK3 := Aside0.mk (blk_grown (bf BK3 NB3_4) hg (Kd.R_ne HO_118000.out BK3.out (by decide))); replace BK4 := Aside0.mk (blk_grown (g := gb4) (o := .cells #[.int .i64 (Int.tmod (Int.tmod (wrap64 ((wrap64 (x9_2 * 227)) + 2027)) 10007) 5), .int .i64 (wrap64 ((Int.tmod (Int.tmod (wrap64 ((wrap64 ((Int.tmod (wrap64 ((wrap64 (x9_2 * 227)) + 2027)) 10007) * 227)) + 2027)) 10007) 8) + 2)), .int .i64 t123] 28 (0, 0)) (by (with_reducible repeat (first | refine blk_drewN ?_ _ | refine blk_drew ?_ | refine blk_alloc ?_ _)); refine blk_put (cs := #[.int .i64 (Int.tmod (Int.tmod (wrap64 ((wrap64 (x9_2 * 227)) + 2027)) 10007) 5), .int .i64 (wrap64 ((Int.tmod (Int.tmod (wrap64 ((wrap64 ((Int.tmod (wrap64 ((wrap64 (x9_2 * 227)) + 2027)) 10007) * 227)) + 2027)) 10007) 8) + 2)), .int .i64 0]) ?_ 2 _ rfl; (with_reducible repeat (first | refine blk_drewN ?_ _ | refine blk_drew ?_ | refine blk_alloc ?_ _)); exact BK4.out) hg (Kd.R_away HO_118000.out (fun _ hk => hk))); replace HB := Aside0.mk (hb); have HO126 := Aside0.mk (ho); clear HO_118000; clear ho hb hg hat; obtain ⟨Ao65, co65, eo65⟩ := Kd.R_slice HO126.out; subst eo65; obtain ⟨hcz66_0, hfz66_0⟩ := kc1 BK3))
        go_roundg kj25
        case measure => have := HJ3.out; have := HK2.out; have := HJ25.out; omega
        case rel => exact ⟨((Int.tmod (wrap64 ((wrap64 ((Int.tmod (wrap64 ((wrap64 (x9_2 * 227)) + 2027)) 10007) * 227)) + 2027)) 10007)), (wrap64 (x27_2 + 1)), (y124), (.slice Ao65 y124.length co65), (by first | rfl | (simp; done) | (simp [*]; done)), (by first | rfl | (simp; done) | (simp [*]; done)), H', ⟨by have := HJ3.out; have := HK2.out; have := HJ25.out; omega⟩, ⟨by (with_reducible repeat (first | apply Kd.R_alloc | apply Kd.R_drewN | apply Kd.R_drew)); exact Kd.R_mono (Kd.R_far (p := ⟨gb3, 0, none⟩) (Kd.R_types HO126.out BK3.out (by decide)) (fun _ hk => hk.2) (.slice Ao65 y124.length co65)) (fun _ hk => trivial)⟩, ⟨bf BK1 NB1_3⟩, ⟨bf BK2 NB2_3⟩, ⟨bt BK3⟩, ⟨bw HB⟩⟩
       have c50b0 : ((Int.tmod (Int.tmod (wrap64 ((wrap64 (x9_2 * 227)) + 2027)) 10007) 5) == 3) = false := beq_eq_false_iff_ne.mpr c50
       have c50b1 : ((Int.tmod (Int.tmod (wrap64 ((wrap64 (x9_2 * 227)) + 2027)) 10007) 5) != 3) = true := bne_iff_ne.mpr c50
       replace H := bindS H; obtain ⟨t127, A67, H⟩ := H
       replace H := iteS H; obtain ⟨c68, H⟩ := H
       have LMc68 := Aside0.mk c68
       clear c68
       obtain ⟨y128, hy128⟩ : ∃ y_ : List (S28), y_ = (x118000_2 ++ [(⟨(Int.tmod (Int.tmod (wrap64 ((wrap64 (x9_2 * 227)) + 2027)) 10007) 5), 0, t127⟩ : S28)]) := ⟨_, rfl⟩
       replace H : (impl_MakePuzzle.l0 kj25 (Int.tmod (wrap64 ((wrap64 ((Int.tmod (wrap64 ((wrap64 (x9_2 * 227)) + 2027)) 10007) * 227)) + 2027)) 10007) a1 (wrap64 (x27_2 + 1)) a0_0 a0_1 y128) = some (r1, r2) := by first | (rw [hy128]; with_reducible exact H) | (have H2_ := (Option.bind_some _ _).symm.trans H; first | (rw [hy128]; with_reducible exact H2_) | with_reducible exact H2_) | with_reducible exact H | (rw [hy128]; exact H) | exact H
       have Ny128 := Aside0.mk hy128
       clear hy128
       have H' := Aside0.mk H
       clear H
       have hnb69 := up3 NB4_1 NB4_2 NB4_3
       have hcz72_0 : wc.cell? ⟨gb4, 0, none⟩ = some (.int .i64 (Int.tmod (Int.tmod (wrap64 ((wrap64 (x9_2 * 227)) + 2027)) 10007) 5)) := bc BK4 0
       have hcz72_1 : wc.cell? ⟨gb4, 1, none⟩ = some (.int .i64 0) := bc BK4 1
       have hcz72_2 : wc.cell? ⟨gb4, 2, none⟩ = some (.int .i64 0) := bc BK4 2
       have hfz72_0 := blk_frozen BK4.out 0
       have hfz72_1 := blk_frozen BK4.out 1
       have hfz72_2 := blk_frozen BK4.out 2
       have hnb73 := up2 NB1_2 NB1_3
       obtain ⟨hcz75_0, hcz75_1, hfz75_0, hfz75_1⟩ := kc2 BK1
       go_wp2_with (first | ((with_reducible refine gate_callee (f := 34) rfl ?_); refine goesL_ (some 57) rfl rfl Try.func34 (by kernel_rfl) rfl #[.agg #[.int .i64 (Int.tmod (Int.tmod (wrap64 ((wrap64 (x9_2 * 227)) + 2027)) 10007) 5), .int .i64 0, .int .i64 0], .agg #[.int .i64 a0_0, .int .i64 a0_1]] rfl argR ?_; (with_reducible refine (impl_toldBy.calls (Int.tmod (Int.tmod (wrap64 ((wrap64 (x9_2 * 227)) + 2027)) 10007) 5) 0 0 a0_0 a0_1 t127 _ A67.out).mono ?_); rintro e w76 ⟨rfl, hb⟩; refine ⟨_, rfl, ?_⟩; replace HO_118000 := ko HO_118000 hb; refine mv3 hb BK1 BK2 BK3 ?_; clear BK1 BK2 BK3; intro BK1 BK2 BK3; replace BK4 := Aside0.mk (blk_below (g := gb4) (o := .cells #[.int .i64 (Int.tmod (Int.tmod (wrap64 ((wrap64 (x9_2 * 227)) + 2027)) 10007) 5), .int .i64 0, .int .i64 0] 28 (0, 0)) (bk BK4) hb); replace HB := kw HB hb; (try clear hb); (try clear hk); have hcz77_0 : w76.cell? ⟨gb4, 0, none⟩ = some (.int .i64 (Int.tmod (Int.tmod (wrap64 ((wrap64 (x9_2 * 227)) + 2027)) 10007) 5)) := bc BK4 0; have hcz77_1 : w76.cell? ⟨gb4, 1, none⟩ = some (.int .i64 0) := bc BK4 1; have hcz77_2 : w76.cell? ⟨gb4, 2, none⟩ = some (.int .i64 0) := bc BK4 2; have hfz77_0 := blk_frozen BK4.out 0; have hfz77_1 := blk_frozen BK4.out 1; have hfz77_2 := blk_frozen BK4.out 2; have hnb78 := up1 NB3_2; obtain ⟨hcz79_0, hfz79_0⟩ := kc1 BK3) | ((with_reducible refine gate_builtin (b := .append) (xs := #[.tmp 60, .tmp 62]) rfl ?_); at_builtin; refine Kd.R_append k28 (w0 := w) w.heap.size rfl (.tmp 60) (.tmp 62) 24 28 (.agg #[(.int .i64 0), (.int .i64 0), (.int .i64 0)]) 24 rfl Try.underlying24 info28 rfl (by decide) (by omega) u118000 x118000_2 (⟨(Int.tmod (Int.tmod (wrap64 ((wrap64 (x9_2 * 227)) + 2027)) 10007) 5), 0, t127⟩ : S28) [.int .i64 (Int.tmod (Int.tmod (wrap64 ((wrap64 (x9_2 * 227)) + 2027)) 10007) 5), .int .i64 0, .int .i64 t127] (fun k_ => k_ ≠ gb4) (fun _ => False) rfl (by first | (go_simp; done) | (go_simp; rfl)) ?aP (fun _ hk => hk.elim) ?aF ?aO ?aB ?aS ?aL ?_; (case aP => exact k28_mkM _ _ _ (⟨(Int.tmod (Int.tmod (wrap64 ((wrap64 (x9_2 * 227)) + 2027)) 10007) 5), 0, t127⟩ : S28)); (case aB => exact (bw HB)); (case aF => exact (fun k_ hk => Kd.freshB (g := gb4) (o := .cells #[.int .i64 (Int.tmod (Int.tmod (wrap64 ((wrap64 (x9_2 * 227)) + 2027)) 10007) 5), .int .i64 0, .int .i64 t127] 28 (0, 0)) (by (with_reducible repeat (first | refine blk_drewN ?_ _ | refine blk_drew ?_ | refine blk_alloc ?_ _)); refine blk_put (cs := #[.int .i64 (Int.tmod (Int.tmod (wrap64 ((wrap64 (x9_2 * 227)) + 2027)) 10007) 5), .int .i64 0, .int .i64 0]) ?_ 2 _ rfl; (with_reducible repeat (first | refine blk_drewN ?_ _ | refine blk_drew ?_ | refine blk_alloc ?_ _)); exact BK4.out) k_ hk)); (case aO => exact (by (with_reducible repeat (first | apply Kd.R_alloc | apply Kd.R_drewN | apply Kd.R_drew)); exact Kd.R_mono (Kd.R_far (p := ⟨gb4, 2, none⟩) (Kd.R_mono HO_118000.out (fun k_ hk => (⟨hk, hk⟩ : _ ∧ k_ ≠ gb4))) (fun _ hk => hk.2) (.int .i64 t127)) (fun _ hk => hk.1))); (case aS => exact (below_size (bw HB))); (case aL => have := LMc68.out; omega); intro v129 w80 ho hb hg hat; rw [← Ny128.out] at ho; replace BK1 := Aside0.mk (blk_grown (bf BK1 NB1_4) hg (Kd.R_ne HO_118000.out BK1.out (by decide))); replace BK2 := Aside0.mk (blk_grown (bf BK2 NB2_4) hg (Kd.R_ne HO_118000.out BK2.out (by decide))); replace BK3 := Aside0.mk (blk_grown (bf BK3 NB3_4) hg (Kd.R_ne HO_118000.out BK3.out (by decide))); replace BK4 := Aside0.mk (blk_grown (g := gb4) (o := .cells #[.int .i64 (Int.tmod (Int.tmod (wrap64 ((wrap64 (x9_2 * 227)) + 2027)) 10007) 5), .int .i64 0, .int .i64 t127] 28 (0, 0)) (by (with_reducible repeat (first | refine blk_drewN ?_ _ | refine blk_drew ?_ | refine blk_alloc ?_ _)); refine blk_put (cs := #[.int .i64 (Int.tmod (Int.tmod (wrap64 ((wrap64 (x9_2 * 227)) + 2027)) 10007) 5), .int .i64 0, .int .i64 0]) ?_ 2 _ rfl; (with_reducible repeat (first | refine blk_drewN ?_ _ | refine blk_drew ?_ | refine blk_alloc ?_ _)); exact BK4.out) hg (Kd.R_away HO_118000.out (fun _ hk => hk))); replace HB := Aside0.mk (hb); have HO130 := Aside0.mk (ho); clear HO_118000; clear ho hb hg hat; obtain ⟨Ao81, co81, eo81⟩ := Kd.R_slice HO130.out; subst eo81; obtain ⟨hcz82_0, hfz82_0⟩ := kc1 BK3))
       go_roundg kj25
       case measure => have := HJ3.out; have := HK2.out; have := HJ25.out; omega
       case rel => exact ⟨((Int.tmod (wrap64 ((wrap64 ((Int.tmod (wrap64 ((wrap64 (x9_2 * 227)) + 2027)) 10007) * 227)) + 2027)) 10007)), (wrap64 (x27_2 + 1)), (y128), (.slice Ao81 y128.length co81), (by first | rfl | (simp; done) | (simp [*]; done)), (by first | rfl | (simp; done) | (simp [*]; done)), H', ⟨by have := HJ3.out; have := HK2.out; have := HJ25.out; omega⟩, ⟨by (with_reducible repeat (first | apply Kd.R_alloc | apply Kd.R_drewN | apply Kd.R_drew)); exact Kd.R_mono (Kd.R_far (p := ⟨gb3, 0, none⟩) (Kd.R_types HO130.out BK3.out (by decide)) (fun _ hk => hk.2) (.slice Ao81 y128.length co81)) (fun _ hk => trivial)⟩, ⟨bf BK1 NB1_3⟩, ⟨bf BK2 NB2_3⟩, ⟨bt BK3⟩, ⟨bw HB⟩⟩

/-! ### spec_l1In: function 36 -/
def spec_l1In.f (a0 : Int) (a1 : Int) (a2 : Int) : Option (Bool) := if a0 ≥ a1 then (some (decide (a0 ≤ a2))) else (some false)
set_option maxHeartbeats 8000000 in
set_option maxRecDepth 100000 in
theorem spec_l1In.calls (a0 : Int) (a1 : Int) (a2 : Int) (r : Bool) (w : World) (h : spec_l1In.f a0 a1 a2 = some r) :
    Calls Try.prog 36 #[.int .i64 a0, .int .i64 a1, .int .i64 a2] w fun e w' => e = .returned (.bool r) ∧ Drawn0 w w' := by
 have H : (if a0 ≥ a1 then (some (decide (a0 ≤ a2))) else (some false)) = some r := h
 clear h
 replace H := iteC H; rcases H with ⟨c4, H⟩ | ⟨c4, H⟩
 ·
  have c4b0 : decide (a1 ≤ a0) = true := decide_eq_true c4
  clear c4
  obtain rfl := Option.some.inj H
  go_enter Try.func36, Try.ntmps36
  go_wp2
  go_ret
  exact ⟨by first | rfl | (simp; done) | (simp [*]; done), by repeat (first | exact Drawn0.refl _ | apply Drawn0.step)⟩
 have c4b0 : decide (a1 ≤ a0) = false := decide_eq_false c4
 clear c4
 obtain rfl := Option.some.inj H
 go_enter Try.func36, Try.ntmps36
 go_wp2
 go_ret
 exact ⟨by first | rfl | (simp; done) | (simp [*]; done), by repeat (first | exact Drawn0.refl _ | apply Drawn0.step)⟩

/-! ### spec_snGood: function 61 -/
def spec_snGood.f (a0_0 : Int) (a0_1 : Int) : Option (Bool) := (spec_l1In.f a0_0 1 1000).bind fun t132 => (if t132 = true then ((spec_l1In.f a0_1 0 1000).bind fun t133 => (some t133)) else (some false))
set_option maxHeartbeats 8000000 in
set_option maxRecDepth 100000 in
theorem spec_snGood.calls (a0_0 : Int) (a0_1 : Int) (r : Bool) (w : World) (h : spec_snGood.f a0_0 a0_1 = some r) :
    Calls Try.prog 61 #[.agg #[.int .i64 a0_0, .int .i64 a0_1]] w fun e w' => e = .returned (.bool r) ∧ Below w.heap.size w w' := by
 have hu23 := Try.underlying23
 have HB := Aside0.mk (Below.refl w.heap.size w)
 have H : ((spec_l1In.f a0_0 1 1000).bind fun t132 => (if t132 = true then ((spec_l1In.f a0_1 0 1000).bind fun t133 => (some t133)) else (some false))) = some r := h
 clear h
 replace H := bindS H; obtain ⟨t132, A2, H⟩ := H
 replace H := iteB H; rcases H with ⟨rfl, H⟩ | ⟨rfl, H⟩
 ·
  replace H := bindS H; obtain ⟨t133, A4, H⟩ := H
  obtain rfl := Option.some.inj H
  go_enter Try.func61, Try.ntmps61
  go_wp2_with (first | ((with_reducible refine gate_dst (N := 1) rfl ?_); refine boxK HB (N := 1) (cs := #[.int .i64 a0_0, .int .i64 a0_1]) (t := 23) (h := ?_); clear HB; intro gb1 hg w5 BK1 GW1 GE1 HB hb; clear hb hg; obtain ⟨hcz6_0, hcz6_1, hfz6_0, hfz6_1⟩ := kc2 BK1) | ((with_reducible refine gate_callee (f := 36) rfl ?_); refine goK (some 5) Try.func36 #[.int .i64 a0_0, .int .i64 1, .int .i64 1000] ?_; (with_reducible refine (spec_l1In.calls a0_0 1 1000 true _ A2.out).mono ?_); rintro e w' ⟨rfl, ⟨nd, rfl⟩⟩; refine ⟨_, rfl, ?_⟩) | (go_at_call 36; (with_reducible refine (spec_l1In.calls a0_1 0 1000 t133 _ A4.out).mono ?_); rintro e w' ⟨rfl, ⟨nd, rfl⟩⟩))
  go_ret
  exact ⟨eqR, bw HB⟩
 obtain rfl := Option.some.inj H
 go_enter Try.func61, Try.ntmps61
 go_wp2_with (first | ((with_reducible refine gate_dst (N := 1) rfl ?_); refine boxK HB (N := 1) (cs := #[.int .i64 a0_0, .int .i64 a0_1]) (t := 23) (h := ?_); clear HB; intro gb1 hg w7 BK1 GW1 GE1 HB hb; clear hb hg; obtain ⟨hcz8_0, hcz8_1, hfz8_0, hfz8_1⟩ := kc2 BK1) | ((with_reducible refine gate_callee (f := 36) rfl ?_); refine goK (some 5) Try.func36 #[.int .i64 a0_0, .int .i64 1, .int .i64 1000] ?_; (with_reducible refine (spec_l1In.calls a0_0 1 1000 false _ A2.out).mono ?_); rintro e w' ⟨rfl, ⟨nd, rfl⟩⟩; refine ⟨_, rfl, ?_⟩))
 go_ret
 exact ⟨eqR, bw HB⟩

/-! ### spec_pzHidden: function 35 -/
def spec_pzHidden.f (a0_0 : Int) (a0_1 : Int) : Option (Bool) := (spec_snGood.f a0_0 a0_1).bind fun t135 => (if t135 = true then (if a0_0 ≤ 12 then (some (decide (a0_1 ≤ 12))) else (some false)) else (some false))
set_option maxHeartbeats 8000000 in
set_option maxRecDepth 100000 in
theorem spec_pzHidden.calls (a0_0 : Int) (a0_1 : Int) (r : Bool) (w : World) (h : spec_pzHidden.f a0_0 a0_1 = some r) :
    Calls Try.prog 35 #[.agg #[.int .i64 a0_0, .int .i64 a0_1]] w fun e w' => e = .returned (.bool r) ∧ Below w.heap.size w w' := by
 have hu23 := Try.underlying23
 have HB := Aside0.mk (Below.refl w.heap.size w)
 have H : ((spec_snGood.f a0_0 a0_1).bind fun t135 => (if t135 = true then (if a0_0 ≤ 12 then (some (decide (a0_1 ≤ 12))) else (some false)) else (some false))) = some r := h
 clear h
 replace H := bindS H; obtain ⟨t135, A2, H⟩ := H
 replace H := iteB H; rcases H with ⟨rfl, H⟩ | ⟨rfl, H⟩
 rotate_left
 ·
  obtain rfl := Option.some.inj H
  go_enter Try.func35, Try.ntmps35
  go_wp2_with (first | ((with_reducible refine gate_dst (N := 1) rfl ?_); refine boxK HB (N := 1) (cs := #[.int .i64 a0_0, .int .i64 a0_1]) (t := 23) (h := ?_); clear HB; intro gb1 hg w13 BK1 GW1 GE1 HB hb; clear hb hg; obtain ⟨hcz14_0, hcz14_1, hfz14_0, hfz14_1⟩ := kc2 BK1) | ((with_reducible refine gate_callee (f := 61) rfl ?_); refine goK (some 4) Try.func61 #[.agg #[.int .i64 a0_0, .int .i64 a0_1]] ?_; (with_reducible refine (spec_snGood.calls a0_0 a0_1 false _ A2.out).mono ?_); rintro e w15 ⟨rfl, hb⟩; refine ⟨_, rfl, ?_⟩; replace BK1 := kb BK1 hb; replace HB := kw HB hb; (try clear hb)))
  go_ret
  exact ⟨eqR, bw HB⟩
 replace H := iteC H; rcases H with ⟨c4, H⟩ | ⟨c4, H⟩
 ·
  have c4b0 : decide (a0_0 ≤ 12) = true := decide_eq_true c4
  clear c4
  obtain rfl := Option.some.inj H
  go_enter Try.func35, Try.ntmps35
  go_wp2_with (first | ((with_reducible refine gate_dst (N := 1) rfl ?_); refine boxK HB (N := 1) (cs := #[.int .i64 a0_0, .int .i64 a0_1]) (t := 23) (h := ?_); clear HB; intro gb1 hg w5 BK1 GW1 GE1 HB hb; clear hb hg; obtain ⟨hcz6_0, hcz6_1, hfz6_0, hfz6_1⟩ := kc2 BK1) | ((with_reducible refine gate_callee (f := 61) rfl ?_); refine goK (some 4) Try.func61 #[.agg #[.int .i64 a0_0, .int .i64 a0_1]] ?_; (with_reducible refine (spec_snGood.calls a0_0 a0_1 true _ A2.out).mono ?_); rintro e w7 ⟨rfl, hb⟩; refine ⟨_, rfl, ?_⟩; replace BK1 := kb BK1 hb; replace HB := kw HB hb; (try clear hb); obtain ⟨hcz8_0, hcz8_1, hfz8_0, hfz8_1⟩ := kc2 BK1))
  go_ret
  exact ⟨eqR, bw HB⟩
 have c4b0 : decide (a0_0 ≤ 12) = false := decide_eq_false c4
 clear c4
 obtain rfl := Option.some.inj H
 go_enter Try.func35, Try.ntmps35
 go_wp2_with (first | ((with_reducible refine gate_dst (N := 1) rfl ?_); refine boxK HB (N := 1) (cs := #[.int .i64 a0_0, .int .i64 a0_1]) (t := 23) (h := ?_); clear HB; intro gb1 hg w9 BK1 GW1 GE1 HB hb; clear hb hg; obtain ⟨hcz10_0, hcz10_1, hfz10_0, hfz10_1⟩ := kc2 BK1) | ((with_reducible refine gate_callee (f := 61) rfl ?_); refine goK (some 4) Try.func61 #[.agg #[.int .i64 a0_0, .int .i64 a0_1]] ?_; (with_reducible refine (spec_snGood.calls a0_0 a0_1 true _ A2.out).mono ?_); rintro e w11 ⟨rfl, hb⟩; refine ⟨_, rfl, ?_⟩; replace BK1 := kb BK1 hb; replace HB := kw HB hb; (try clear hb); obtain ⟨hcz12_0, hcz12_1, hfz12_0, hfz12_1⟩ := kc2 BK1))
 go_ret
 exact ⟨eqR, bw HB⟩

/-! ### spec_pzNext: function 37 -/
def spec_pzNext.f (a0 : Int) : Option (Int) := some (Int.tmod (wrap64 ((wrap64 (227 * a0)) + 2027)) 10007)
set_option maxHeartbeats 8000000 in
set_option maxRecDepth 100000 in
theorem spec_pzNext.calls (a0 : Int) (r : Int) (w : World) (h : spec_pzNext.f a0 = some r) :
    Calls Try.prog 37 #[.int .i64 a0] w fun e w' => e = .returned (.int .i64 r) ∧ Drawn0 w w' := by
 have H : (some (Int.tmod (wrap64 ((wrap64 (227 * a0)) + 2027)) 10007)) = some r := h
 clear h
 obtain rfl := Option.some.inj H
 go_enter Try.func37, Try.ntmps37
 go_wp2
 go_ret
 exact ⟨by first | rfl | (simp; done) | (simp [*]; done), by repeat (first | exact Drawn0.refl _ | apply Drawn0.step)⟩

/-! ### spec_snCan: function 72 -/
def spec_snCan.f (a0_0 : Int) (a0_1 : Int) (a1 : Int) : Option (Bool) := if a0_0 ≥ a1 then (some true) else (some (decide (a0_0 > a0_1)))
set_option maxHeartbeats 8000000 in
set_option maxRecDepth 100000 in
theorem spec_snCan.calls (a0_0 : Int) (a0_1 : Int) (a1 : Int) (r : Bool) (w : World) (h : spec_snCan.f a0_0 a0_1 a1 = some r) :
    Calls Try.prog 72 #[.agg #[.int .i64 a0_0, .int .i64 a0_1], .int .i64 a1] w fun e w' => e = .returned (.bool r) ∧ Below w.heap.size w w' := by
 have hu23 := Try.underlying23
 have HB := Aside0.mk (Below.refl w.heap.size w)
 have H : (if a0_0 ≥ a1 then (some true) else (some (decide (a0_0 > a0_1)))) = some r := h
 clear h
 replace H := iteC H; rcases H with ⟨c3, H⟩ | ⟨c3, H⟩
 ·
  have c3b0 : decide (a1 ≤ a0_0) = true := decide_eq_true c3
  clear c3
  obtain rfl := Option.some.inj H
  go_enter Try.func72, Try.ntmps72
  go_wp2_with (first | ((with_reducible refine gate_dst (N := 2) rfl ?_); refine boxK HB (N := 2) (cs := #[.int .i64 a0_0, .int .i64 a0_1]) (t := 23) (h := ?_); clear HB; intro gb1 hg w4 BK1 GW1 GE1 HB hb; clear hb hg; obtain ⟨hcz5_0, hcz5_1, hfz5_0, hfz5_1⟩ := kc2 BK1))
  go_ret
  exact ⟨eqR, bw HB⟩
 have c3b0 : decide (a1 ≤ a0_0) = false := decide_eq_false c3
 clear c3
 obtain rfl := Option.some.inj H
 go_enter Try.func72, Try.ntmps72
 go_wp2_with (first | ((with_reducible refine gate_dst (N := 2) rfl ?_); refine boxK HB (N := 2) (cs := #[.int .i64 a0_0, .int .i64 a0_1]) (t := 23) (h := ?_); clear HB; intro gb1 hg w6 BK1 GW1 GE1 HB hb; clear hb hg; obtain ⟨hcz7_0, hcz7_1, hfz7_0, hfz7_1⟩ := kc2 BK1))
 go_ret
 exact ⟨eqR, bw HB⟩

/-! ### spec_snDays: function 73 -/
def spec_snDays.f (a0_0 : Int) (a0_1 : Int) (a1 : Int) : Option (Int) := if a0_0 ≥ a1 then (some 1) else (if (wrap64 (a0_0 - a0_1)) = 0 then (none) else (some (wrap64 (1 + (wrap64 (Int.tdiv (wrap64 ((wrap64 ((wrap64 (a1 - a0_0)) + (wrap64 (a0_0 - a0_1)))) - 1)) (wrap64 (a0_0 - a0_1))))))))
set_option maxHeartbeats 8000000 in
set_option maxRecDepth 100000 in
theorem spec_snDays.calls (a0_0 : Int) (a0_1 : Int) (a1 : Int) (r : Int) (w : World) (h : spec_snDays.f a0_0 a0_1 a1 = some r) :
    Calls Try.prog 73 #[.agg #[.int .i64 a0_0, .int .i64 a0_1], .int .i64 a1] w fun e w' => e = .returned (.int .i64 r) ∧ Below w.heap.size w w' := by
 have hu23 := Try.underlying23
 have HB := Aside0.mk (Below.refl w.heap.size w)
 have H : (if a0_0 ≥ a1 then (some 1) else (if (wrap64 (a0_0 - a0_1)) = 0 then (none) else (some (wrap64 (1 + (wrap64 (Int.tdiv (wrap64 ((wrap64 ((wrap64 (a1 - a0_0)) + (wrap64 (a0_0 - a0_1)))) - 1)) (wrap64 (a0_0 - a0_1))))))))) = some r := h
 clear h
 replace H := iteC H; rcases H with ⟨c3, H⟩ | ⟨c3, H⟩
 ·
  have c3b0 : decide (a1 ≤ a0_0) = true := decide_eq_true c3
  clear c3
  obtain rfl := Option.some.inj H
  go_enter Try.func73, Try.ntmps73
  go_wp2_with (first | ((with_reducible refine gate_dst (N := 2) rfl ?_); refine boxK HB (N := 2) (cs := #[.int .i64 a0_0, .int .i64 a0_1]) (t := 23) (h := ?_); clear HB; intro gb1 hg w4 BK1 GW1 GE1 HB hb; clear hb hg; obtain ⟨hcz5_0, hcz5_1, hfz5_0, hfz5_1⟩ := kc2 BK1))
  go_ret
  exact ⟨eqR, bw HB⟩
 have c3b0 : decide (a1 ≤ a0_0) = false := decide_eq_false c3
 clear c3
 replace H := iteC H; rcases H with ⟨c6, H⟩ | ⟨c6, H⟩
 · exact absurd H (by simp)
 have c6b0 : ((wrap64 (a0_0 - a0_1)) == 0) = false := beq_eq_false_iff_ne.mpr c6
 have c6b1 : ((wrap64 (a0_0 - a0_1)) != 0) = true := bne_iff_ne.mpr c6
 obtain rfl := Option.some.inj H
 go_enter Try.func73, Try.ntmps73
 go_wp2_with (first | ((with_reducible refine gate_dst (N := 2) rfl ?_); refine boxK HB (N := 2) (cs := #[.int .i64 a0_0, .int .i64 a0_1]) (t := 23) (h := ?_); clear HB; intro gb1 hg w7 BK1 GW1 GE1 HB hb; clear hb hg; obtain ⟨hcz8_0, hcz8_1, hfz8_0, hfz8_1⟩ := kc2 BK1))
 go_ret
 exact ⟨eqR, bw HB⟩

/-! ### spec_l1Least: function 74 -/
def spec_l1Least.f (a0 : Int) (a1 : Int) : Option (Int) := if a0 < a1 then (some a0) else (some a1)
set_option maxHeartbeats 8000000 in
set_option maxRecDepth 100000 in
theorem spec_l1Least.calls (a0 : Int) (a1 : Int) (r : Int) (w : World) (h : spec_l1Least.f a0 a1 = some r) :
    Calls Try.prog 74 #[.int .i64 a0, .int .i64 a1] w fun e w' => e = .returned (.int .i64 r) ∧ Drawn0 w w' := by
 have H : (if a0 < a1 then (some a0) else (some a1)) = some r := h
 clear h
 replace H := iteC H; rcases H with ⟨c3, H⟩ | ⟨c3, H⟩
 ·
  have c3b0 : decide (a0 < a1) = true := decide_eq_true c3
  clear c3
  obtain rfl := Option.some.inj H
  go_enter Try.func74, Try.ntmps74
  go_wp2
  go_ret
  exact ⟨by first | rfl | (simp; done) | (simp [*]; done), by repeat (first | exact Drawn0.refl _ | apply Drawn0.step)⟩
 have c3b0 : decide (a0 < a1) = false := decide_eq_false c3
 clear c3
 obtain rfl := Option.some.inj H
 go_enter Try.func74, Try.ntmps74
 go_wp2
 go_ret
 exact ⟨by first | rfl | (simp; done) | (simp [*]; done), by repeat (first | exact Drawn0.refl _ | apply Drawn0.step)⟩

/-! ### spec_snEvening: function 75 -/
def spec_snEvening.f (a0_0 : Int) (a0_1 : Int) (a1 : Int) : Option (Int) := if a0_1 ≥ a0_0 then (some a0_0) else (some (wrap64 (a0_0 + (wrap64 ((wrap64 (a1 - 1)) * (wrap64 (a0_0 - a0_1)))))))
set_option maxHeartbeats 8000000 in
set_option maxRecDepth 100000 in
theorem spec_snEvening.calls (a0_0 : Int) (a0_1 : Int) (a1 : Int) (r : Int) (w : World) (h : spec_snEvening.f a0_0 a0_1 a1 = some r) :
    Calls Try.prog 75 #[.agg #[.int .i64 a0_0, .int .i64 a0_1], .int .i64 a1] w fun e w' => e = .returned (.int .i64 r) ∧ Below w.heap.size w w' := by
 have hu23 := Try.underlying23
 have HB := Aside0.mk (Below.refl w.heap.size w)
 have H : (if a0_1 ≥ a0_0 then (some a0_0) else (some (wrap64 (a0_0 + (wrap64 ((wrap64 (a1 - 1)) * (wrap64 (a0_0 - a0_1)))))))) = some r := h
 clear h
 replace H := iteC H; rcases H with ⟨c3, H⟩ | ⟨c3, H⟩
 ·
  have c3b0 : decide (a0_0 ≤ a0_1) = true := decide_eq_true c3
  clear c3
  obtain rfl := Option.some.inj H
  go_enter Try.func75, Try.ntmps75
  go_wp2_with (first | ((with_reducible refine gate_dst (N := 2) rfl ?_); refine boxK HB (N := 2) (cs := #[.int .i64 a0_0, .int .i64 a0_1]) (t := 23) (h := ?_); clear HB; intro gb1 hg w4 BK1 GW1 GE1 HB hb; clear hb hg; obtain ⟨hcz5_0, hcz5_1, hfz5_0, hfz5_1⟩ := kc2 BK1))
  go_ret
  exact ⟨eqR, bw HB⟩
 have c3b0 : decide (a0_0 ≤ a0_1) = false := decide_eq_false c3
 clear c3
 obtain rfl := Option.some.inj H
 go_enter Try.func75, Try.ntmps75
 go_wp2_with (first | ((with_reducible refine gate_dst (N := 2) rfl ?_); refine boxK HB (N := 2) (cs := #[.int .i64 a0_0, .int .i64 a0_1]) (t := 23) (h := ?_); clear HB; intro gb1 hg w6 BK1 GW1 GE1 HB hb; clear hb hg; obtain ⟨hcz7_0, hcz7_1, hfz7_0, hfz7_1⟩ := kc2 BK1))
 go_ret
 exact ⟨eqR, bw HB⟩

/-! ### spec_pzValue: function 62 -/
def spec_pzValue.f (a0 : Int) (a1 : Int) (a2_0 : Int) (a2_1 : Int) : Option (Int) := if a0 = 0 then ((spec_snCan.f a2_0 a2_1 a1).bind fun t140 => (if t140 = true then ((spec_snDays.f a2_0 a2_1 a1).bind fun t141 => (some t141)) else (some 0))) else (if a0 = 1 then ((spec_snEvening.f a2_0 a2_1 a1).bind fun t142 => ((spec_l1Least.f 100 t142).bind fun t143 => (some t143))) else (if a0 = 2 then (some (wrap64 (a2_0 + a2_1))) else (if a0 = 3 then (if a1 = 0 then (none) else (if (Int.tmod a2_0 a1) = 0 then (some 1) else (some 0))) else (some (wrap64 (a2_0 - a2_1))))))
set_option maxHeartbeats 8000000 in
set_option maxRecDepth 100000 in
theorem spec_pzValue.calls (a0 : Int) (a1 : Int) (a2_0 : Int) (a2_1 : Int) (r : Int) (w : World) (h : spec_pzValue.f a0 a1 a2_0 a2_1 = some r) :
    Calls Try.prog 62 #[.int .i64 a0, .int .i64 a1, .agg #[.int .i64 a2_0, .int .i64 a2_1]] w fun e w' => e = .returned (.int .i64 r) ∧ Below w.heap.size w w' := by
 have hu23 := Try.underlying23
 have HB := Aside0.mk (Below.refl w.heap.size w)
 have H : (if a0 = 0 then ((spec_snCan.f a2_0 a2_1 a1).bind fun t140 => (if t140 = true then ((spec_snDays.f a2_0 a2_1 a1).bind fun t141 => (some t141)) else (some 0))) else (if a0 = 1 then ((spec_snEvening.f a2_0 a2_1 a1).bind fun t142 => ((spec_l1Least.f 100 t142).bind fun t143 => (some t143))) else (if a0 = 2 then (some (wrap64 (a2_0 + a2_1))) else (if a0 = 3 then (if a1 = 0 then (none) else (if (Int.tmod a2_0 a1) = 0 then (some 1) else (some 0))) else (some (wrap64 (a2_0 - a2_1))))))) = some r := h
 clear h
 replace H := iteC H; rcases H with ⟨c4, H⟩ | ⟨c4, H⟩
 ·
  have c4b0 : (a0 == 0) = true := beq_iff_eq.mpr c4
  have c4b1 : (a0 != 0) = false := bne_eq_false_iff_eq.mpr c4
  clear c4
  replace H := bindS H; obtain ⟨t140, A5, H⟩ := H
  replace H := iteB H; rcases H with ⟨rfl, H⟩ | ⟨rfl, H⟩
  ·
   replace H := bindS H; obtain ⟨t141, A7, H⟩ := H
   obtain rfl := Option.some.inj H
   go_enter Try.func62, Try.ntmps62
   go_wp2_with (first | ((with_reducible refine gate_dst (N := 5) rfl ?_); refine boxK HB (N := 5) (cs := #[.int .i64 a2_0, .int .i64 a2_1]) (t := 23) (h := ?_); clear HB; intro gb1 hg w8 BK1 GW1 GE1 HB hb; clear hb hg; obtain ⟨hcz9_0, hcz9_1, hfz9_0, hfz9_1⟩ := kc2 BK1) | ((with_reducible refine gate_callee (f := 72) rfl ?_); refine goK (some 12) Try.func72 #[.agg #[.int .i64 a2_0, .int .i64 a2_1], .int .i64 a1] ?_; (with_reducible refine (spec_snCan.calls a2_0 a2_1 a1 true _ A5.out).mono ?_); rintro e w10 ⟨rfl, hb⟩; refine ⟨_, rfl, ?_⟩; replace BK1 := kb BK1 hb; replace HB := kw HB hb; (try clear hb); obtain ⟨hcz11_0, hcz11_1, hfz11_0, hfz11_1⟩ := kc2 BK1) | ((with_reducible refine gate_callee (f := 73) rfl ?_); refine goK (some 16) Try.func73 #[.agg #[.int .i64 a2_0, .int .i64 a2_1], .int .i64 a1] ?_; (with_reducible refine (spec_snDays.calls a2_0 a2_1 a1 t141 _ A7.out).mono ?_); rintro e w12 ⟨rfl, hb⟩; refine ⟨_, rfl, ?_⟩; replace BK1 := kb BK1 hb; replace HB := kw HB hb; (try clear hb)))
   go_ret
   exact ⟨eqR, bw HB⟩
  obtain rfl := Option.some.inj H
  go_enter Try.func62, Try.ntmps62
  go_wp2_with (first | ((with_reducible refine gate_dst (N := 5) rfl ?_); refine boxK HB (N := 5) (cs := #[.int .i64 a2_0, .int .i64 a2_1]) (t := 23) (h := ?_); clear HB; intro gb1 hg w13 BK1 GW1 GE1 HB hb; clear hb hg; obtain ⟨hcz14_0, hcz14_1, hfz14_0, hfz14_1⟩ := kc2 BK1) | ((with_reducible refine gate_callee (f := 72) rfl ?_); refine goK (some 12) Try.func72 #[.agg #[.int .i64 a2_0, .int .i64 a2_1], .int .i64 a1] ?_; (with_reducible refine (spec_snCan.calls a2_0 a2_1 a1 false _ A5.out).mono ?_); rintro e w15 ⟨rfl, hb⟩; refine ⟨_, rfl, ?_⟩; replace BK1 := kb BK1 hb; replace HB := kw HB hb; (try clear hb)))
  go_ret
  exact ⟨eqR, bw HB⟩
 have c4b0 : (a0 == 0) = false := beq_eq_false_iff_ne.mpr c4
 have c4b1 : (a0 != 0) = true := bne_iff_ne.mpr c4
 replace H := iteC H; rcases H with ⟨c16, H⟩ | ⟨c16, H⟩
 ·
  have c16b0 : (a0 == 1) = true := beq_iff_eq.mpr c16
  have c16b1 : (a0 != 1) = false := bne_eq_false_iff_eq.mpr c16
  clear c16
  replace H := bindS H; obtain ⟨t142, A17, H⟩ := H
  replace H := bindS H; obtain ⟨t143, A18, H⟩ := H
  obtain rfl := Option.some.inj H
  go_enter Try.func62, Try.ntmps62
  go_wp2_with (first | ((with_reducible refine gate_dst (N := 5) rfl ?_); refine boxK HB (N := 5) (cs := #[.int .i64 a2_0, .int .i64 a2_1]) (t := 23) (h := ?_); clear HB; intro gb1 hg w19 BK1 GW1 GE1 HB hb; clear hb hg; obtain ⟨hcz20_0, hcz20_1, hfz20_0, hfz20_1⟩ := kc2 BK1) | ((with_reducible refine gate_callee (f := 75) rfl ?_); refine goK (some 21) Try.func75 #[.agg #[.int .i64 a2_0, .int .i64 a2_1], .int .i64 a1] ?_; (with_reducible refine (spec_snEvening.calls a2_0 a2_1 a1 t142 _ A17.out).mono ?_); rintro e w21 ⟨rfl, hb⟩; refine ⟨_, rfl, ?_⟩; replace BK1 := kb BK1 hb; replace HB := kw HB hb; (try clear hb)) | ((with_reducible refine gate_callee (f := 74) rfl ?_); refine goK (some 22) Try.func74 #[.int .i64 100, .int .i64 t142] ?_; (with_reducible refine (spec_l1Least.calls 100 t142 t143 _ A18.out).mono ?_); rintro e w' ⟨rfl, ⟨nd, rfl⟩⟩; refine ⟨_, rfl, ?_⟩))
  go_ret
  exact ⟨eqR, bw HB⟩
 have c16b0 : (a0 == 1) = false := beq_eq_false_iff_ne.mpr c16
 have c16b1 : (a0 != 1) = true := bne_iff_ne.mpr c16
 replace H := iteC H; rcases H with ⟨c22, H⟩ | ⟨c22, H⟩
 ·
  have c22b0 : (a0 == 2) = true := beq_iff_eq.mpr c22
  have c22b1 : (a0 != 2) = false := bne_eq_false_iff_eq.mpr c22
  clear c22
  obtain rfl := Option.some.inj H
  go_enter Try.func62, Try.ntmps62
  go_wp2_with (first | ((with_reducible refine gate_dst (N := 5) rfl ?_); refine boxK HB (N := 5) (cs := #[.int .i64 a2_0, .int .i64 a2_1]) (t := 23) (h := ?_); clear HB; intro gb1 hg w23 BK1 GW1 GE1 HB hb; clear hb hg; obtain ⟨hcz24_0, hcz24_1, hfz24_0, hfz24_1⟩ := kc2 BK1))
  go_ret
  exact ⟨eqR, bw HB⟩
 have c22b0 : (a0 == 2) = false := beq_eq_false_iff_ne.mpr c22
 have c22b1 : (a0 != 2) = true := bne_iff_ne.mpr c22
 replace H := iteC H; rcases H with ⟨c25, H⟩ | ⟨c25, H⟩
 rotate_left
 ·
  have c25b0 : (a0 == 3) = false := beq_eq_false_iff_ne.mpr c25
  have c25b1 : (a0 != 3) = true := bne_iff_ne.mpr c25
  obtain rfl := Option.some.inj H
  go_enter Try.func62, Try.ntmps62
  go_wp2_with (first | ((with_reducible refine gate_dst (N := 5) rfl ?_); refine boxK HB (N := 5) (cs := #[.int .i64 a2_0, .int .i64 a2_1]) (t := 23) (h := ?_); clear HB; intro gb1 hg w32 BK1 GW1 GE1 HB hb; clear hb hg; obtain ⟨hcz33_0, hcz33_1, hfz33_0, hfz33_1⟩ := kc2 BK1))
  go_ret
  exact ⟨eqR, bw HB⟩
 have c25b0 : (a0 == 3) = true := beq_iff_eq.mpr c25
 have c25b1 : (a0 != 3) = false := bne_eq_false_iff_eq.mpr c25
 clear c25
 replace H := iteC H; rcases H with ⟨c26, H⟩ | ⟨c26, H⟩
 · exact absurd H (by simp)
 have c26b0 : (a1 == 0) = false := beq_eq_false_iff_ne.mpr c26
 have c26b1 : (a1 != 0) = true := bne_iff_ne.mpr c26
 replace H := iteC H; rcases H with ⟨c27, H⟩ | ⟨c27, H⟩
 ·
  have c27b0 : ((Int.tmod a2_0 a1) == 0) = true := beq_iff_eq.mpr c27
  have c27b1 : ((Int.tmod a2_0 a1) != 0) = false := bne_eq_false_iff_eq.mpr c27
  clear c27
  obtain rfl := Option.some.inj H
  go_enter Try.func62, Try.ntmps62
  go_wp2_with (first | ((with_reducible refine gate_dst (N := 5) rfl ?_); refine boxK HB (N := 5) (cs := #[.int .i64 a2_0, .int .i64 a2_1]) (t := 23) (h := ?_); clear HB; intro gb1 hg w28 BK1 GW1 GE1 HB hb; clear hb hg; obtain ⟨hcz29_0, hcz29_1, hfz29_0, hfz29_1⟩ := kc2 BK1))
  go_ret
  exact ⟨eqR, bw HB⟩
 have c27b0 : ((Int.tmod a2_0 a1) == 0) = false := beq_eq_false_iff_ne.mpr c27
 have c27b1 : ((Int.tmod a2_0 a1) != 0) = true := bne_iff_ne.mpr c27
 obtain rfl := Option.some.inj H
 go_enter Try.func62, Try.ntmps62
 go_wp2_with (first | ((with_reducible refine gate_dst (N := 5) rfl ?_); refine boxK HB (N := 5) (cs := #[.int .i64 a2_0, .int .i64 a2_1]) (t := 23) (h := ?_); clear HB; intro gb1 hg w30 BK1 GW1 GE1 HB hb; clear hb hg; obtain ⟨hcz31_0, hcz31_1, hfz31_0, hfz31_1⟩ := kc2 BK1))
 go_ret
 exact ⟨eqR, bw HB⟩

end Go.Proofs.Ytlpjooijkeadbaa.PH
