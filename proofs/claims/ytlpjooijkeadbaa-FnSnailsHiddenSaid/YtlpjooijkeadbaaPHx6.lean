-- Written by a program of our own (wip/tools/xprint.py) for this claim; Lean checks it.
import Derived.Test.YtlpjooijkeadbaaPHx0
import Derived.Test.YtlpjooijkeadbaaPHx3
namespace Go.Proofs.Ytlpjooijkeadbaa.PH
open Go.RowKit Go.Proofs.YtlpjooijkeadbaaK Go.Proofs.YtlpjooijkeadbaaW.PrintWords Go.Proofs.YtlpjooijkeadbaaW.PrintLast Go.Proofs.YtlpjooijkeadbaaW.PrintMore
attribute [local go_sem] max2_int min2_int max_two min_two max_three min_three max_four min_four   -- for this text's walks alone
set_option linter.unusedVariables false
set_option linter.unusedSimpArgs false

/-! ### spec_pzClue: function 52 -/
def spec_pzClue.f (a0_0 : Int) (a0_1 : Int) (a0_2 : Int) : Option (Bool) := if a0_0 = 0 then ((spec_l1In.f a0_1 1 100).bind fun t230 => (if t230 = true then ((spec_l1In.f a0_2 0 100).bind fun t231 => (some t231)) else (some false))) else (if a0_0 = 1 then ((spec_l1In.f a0_1 1 100).bind fun t232 => (if t232 = true then ((spec_l1In.f a0_2 1 100).bind fun t233 => (some t233)) else (some false))) else (if a0_0 = 2 then (if a0_1 = 0 then ((spec_l1In.f a0_2 0 24).bind fun t234 => (some t234)) else (some false)) else (if a0_0 = 3 then ((spec_l1In.f a0_1 2 9).bind fun t235 => (if t235 = true then ((spec_l1In.f a0_2 0 1).bind fun t236 => (some t236)) else (some false))) else (if a0_0 = 4 then (if a0_1 = 0 then ((spec_l1In.f a0_2 (-12) 12).bind fun t237 => (some t237)) else (some false)) else (some false)))))
set_option maxHeartbeats 8000000 in
set_option maxRecDepth 100000 in
theorem spec_pzClue.calls (a0_0 : Int) (a0_1 : Int) (a0_2 : Int) (r : Bool) (w : World) (h : spec_pzClue.f a0_0 a0_1 a0_2 = some r) :
    Calls Try.prog 52 #[.agg #[.int .i64 a0_0, .int .i64 a0_1, .int .i64 a0_2]] w fun e w' => e = .returned (.bool r) ∧ Below w.heap.size w w' := by
 have hu28 := Try.underlying28
 have HB := Aside0.mk (Below.refl w.heap.size w)
 have H : (if a0_0 = 0 then ((spec_l1In.f a0_1 1 100).bind fun t230 => (if t230 = true then ((spec_l1In.f a0_2 0 100).bind fun t231 => (some t231)) else (some false))) else (if a0_0 = 1 then ((spec_l1In.f a0_1 1 100).bind fun t232 => (if t232 = true then ((spec_l1In.f a0_2 1 100).bind fun t233 => (some t233)) else (some false))) else (if a0_0 = 2 then (if a0_1 = 0 then ((spec_l1In.f a0_2 0 24).bind fun t234 => (some t234)) else (some false)) else (if a0_0 = 3 then ((spec_l1In.f a0_1 2 9).bind fun t235 => (if t235 = true then ((spec_l1In.f a0_2 0 1).bind fun t236 => (some t236)) else (some false))) else (if a0_0 = 4 then (if a0_1 = 0 then ((spec_l1In.f a0_2 (-12) 12).bind fun t237 => (some t237)) else (some false)) else (some false)))))) = some r := h
 clear h
 replace H := iteC H; rcases H with ⟨c2, H⟩ | ⟨c2, H⟩
 ·
  have c2b0 : (a0_0 == 0) = true := beq_iff_eq.mpr c2
  have c2b1 : (a0_0 != 0) = false := bne_eq_false_iff_eq.mpr c2
  clear c2
  replace H := bindS H; obtain ⟨t230, A3, H⟩ := H
  replace H := iteB H; rcases H with ⟨rfl, H⟩ | ⟨rfl, H⟩
  ·
   replace H := bindS H; obtain ⟨t231, A5, H⟩ := H
   obtain rfl := Option.some.inj H
   go_enter Try.func52, Try.ntmps52
   go_wp2_with (first | ((with_reducible refine gate_dst (N := 1) rfl ?_); refine boxK HB (N := 1) (cs := #[.int .i64 a0_0, .int .i64 a0_1, .int .i64 a0_2]) (t := 28) (h := ?_); clear HB; intro gb1 hg w6 BK1 GW1 GE1 HB hb; clear hb hg; obtain ⟨hcz7_0, hcz7_1, hcz7_2, hfz7_0, hfz7_1, hfz7_2⟩ := kc3 BK1) | ((with_reducible refine gate_callee (f := 36) rfl ?_); refine goK (some 9) Try.func36 #[.int .i64 a0_1, .int .i64 1, .int .i64 100] ?_; (with_reducible refine (spec_l1In.calls a0_1 1 100 true _ A3.out).mono ?_); rintro e w' ⟨rfl, ⟨nd, rfl⟩⟩; refine ⟨_, rfl, ?_⟩) | (go_at_call 36; (with_reducible refine (spec_l1In.calls a0_2 0 100 t231 _ A5.out).mono ?_); rintro e w' ⟨rfl, ⟨nd, rfl⟩⟩))
   go_ret
   exact ⟨eqR, bw HB⟩
  obtain rfl := Option.some.inj H
  go_enter Try.func52, Try.ntmps52
  go_wp2_with (first | ((with_reducible refine gate_dst (N := 1) rfl ?_); refine boxK HB (N := 1) (cs := #[.int .i64 a0_0, .int .i64 a0_1, .int .i64 a0_2]) (t := 28) (h := ?_); clear HB; intro gb1 hg w8 BK1 GW1 GE1 HB hb; clear hb hg; obtain ⟨hcz9_0, hcz9_1, hcz9_2, hfz9_0, hfz9_1, hfz9_2⟩ := kc3 BK1) | ((with_reducible refine gate_callee (f := 36) rfl ?_); refine goK (some 9) Try.func36 #[.int .i64 a0_1, .int .i64 1, .int .i64 100] ?_; (with_reducible refine (spec_l1In.calls a0_1 1 100 false _ A3.out).mono ?_); rintro e w' ⟨rfl, ⟨nd, rfl⟩⟩; refine ⟨_, rfl, ?_⟩))
  go_ret
  exact ⟨eqR, bw HB⟩
 have c2b0 : (a0_0 == 0) = false := beq_eq_false_iff_ne.mpr c2
 have c2b1 : (a0_0 != 0) = true := bne_iff_ne.mpr c2
 replace H := iteC H; rcases H with ⟨c10, H⟩ | ⟨c10, H⟩
 ·
  have c10b0 : (a0_0 == 1) = true := beq_iff_eq.mpr c10
  have c10b1 : (a0_0 != 1) = false := bne_eq_false_iff_eq.mpr c10
  clear c10
  replace H := bindS H; obtain ⟨t232, A11, H⟩ := H
  replace H := iteB H; rcases H with ⟨rfl, H⟩ | ⟨rfl, H⟩
  ·
   replace H := bindS H; obtain ⟨t233, A13, H⟩ := H
   obtain rfl := Option.some.inj H
   go_enter Try.func52, Try.ntmps52
   go_wp2_with (first | ((with_reducible refine gate_dst (N := 1) rfl ?_); refine boxK HB (N := 1) (cs := #[.int .i64 a0_0, .int .i64 a0_1, .int .i64 a0_2]) (t := 28) (h := ?_); clear HB; intro gb1 hg w14 BK1 GW1 GE1 HB hb; clear hb hg; obtain ⟨hcz15_0, hcz15_1, hcz15_2, hfz15_0, hfz15_1, hfz15_2⟩ := kc3 BK1) | ((with_reducible refine gate_callee (f := 36) rfl ?_); refine goK (some 19) Try.func36 #[.int .i64 a0_1, .int .i64 1, .int .i64 100] ?_; (with_reducible refine (spec_l1In.calls a0_1 1 100 true _ A11.out).mono ?_); rintro e w' ⟨rfl, ⟨nd, rfl⟩⟩; refine ⟨_, rfl, ?_⟩) | (go_at_call 36; (with_reducible refine (spec_l1In.calls a0_2 1 100 t233 _ A13.out).mono ?_); rintro e w' ⟨rfl, ⟨nd, rfl⟩⟩))
   go_ret
   exact ⟨eqR, bw HB⟩
  obtain rfl := Option.some.inj H
  go_enter Try.func52, Try.ntmps52
  go_wp2_with (first | ((with_reducible refine gate_dst (N := 1) rfl ?_); refine boxK HB (N := 1) (cs := #[.int .i64 a0_0, .int .i64 a0_1, .int .i64 a0_2]) (t := 28) (h := ?_); clear HB; intro gb1 hg w16 BK1 GW1 GE1 HB hb; clear hb hg; obtain ⟨hcz17_0, hcz17_1, hcz17_2, hfz17_0, hfz17_1, hfz17_2⟩ := kc3 BK1) | ((with_reducible refine gate_callee (f := 36) rfl ?_); refine goK (some 19) Try.func36 #[.int .i64 a0_1, .int .i64 1, .int .i64 100] ?_; (with_reducible refine (spec_l1In.calls a0_1 1 100 false _ A11.out).mono ?_); rintro e w' ⟨rfl, ⟨nd, rfl⟩⟩; refine ⟨_, rfl, ?_⟩))
  go_ret
  exact ⟨eqR, bw HB⟩
 have c10b0 : (a0_0 == 1) = false := beq_eq_false_iff_ne.mpr c10
 have c10b1 : (a0_0 != 1) = true := bne_iff_ne.mpr c10
 replace H := iteC H; rcases H with ⟨c18, H⟩ | ⟨c18, H⟩
 ·
  have c18b0 : (a0_0 == 2) = true := beq_iff_eq.mpr c18
  have c18b1 : (a0_0 != 2) = false := bne_eq_false_iff_eq.mpr c18
  clear c18
  replace H := iteC H; rcases H with ⟨c19, H⟩ | ⟨c19, H⟩
  ·
   have c19b0 : (a0_1 == 0) = true := beq_iff_eq.mpr c19
   have c19b1 : (a0_1 != 0) = false := bne_eq_false_iff_eq.mpr c19
   clear c19
   replace H := bindS H; obtain ⟨t234, A20, H⟩ := H
   obtain rfl := Option.some.inj H
   go_enter Try.func52, Try.ntmps52
   go_wp2_with (first | ((with_reducible refine gate_dst (N := 1) rfl ?_); refine boxK HB (N := 1) (cs := #[.int .i64 a0_0, .int .i64 a0_1, .int .i64 a0_2]) (t := 28) (h := ?_); clear HB; intro gb1 hg w21 BK1 GW1 GE1 HB hb; clear hb hg; obtain ⟨hcz22_0, hcz22_1, hcz22_2, hfz22_0, hfz22_1, hfz22_2⟩ := kc3 BK1) | (go_at_call 36; (with_reducible refine (spec_l1In.calls a0_2 0 24 t234 _ A20.out).mono ?_); rintro e w' ⟨rfl, ⟨nd, rfl⟩⟩))
   go_ret
   exact ⟨eqR, bw HB⟩
  have c19b0 : (a0_1 == 0) = false := beq_eq_false_iff_ne.mpr c19
  have c19b1 : (a0_1 != 0) = true := bne_iff_ne.mpr c19
  obtain rfl := Option.some.inj H
  go_enter Try.func52, Try.ntmps52
  go_wp2_with (first | ((with_reducible refine gate_dst (N := 1) rfl ?_); refine boxK HB (N := 1) (cs := #[.int .i64 a0_0, .int .i64 a0_1, .int .i64 a0_2]) (t := 28) (h := ?_); clear HB; intro gb1 hg w23 BK1 GW1 GE1 HB hb; clear hb hg; obtain ⟨hcz24_0, hcz24_1, hcz24_2, hfz24_0, hfz24_1, hfz24_2⟩ := kc3 BK1))
  go_ret
  exact ⟨eqR, bw HB⟩
 have c18b0 : (a0_0 == 2) = false := beq_eq_false_iff_ne.mpr c18
 have c18b1 : (a0_0 != 2) = true := bne_iff_ne.mpr c18
 replace H := iteC H; rcases H with ⟨c25, H⟩ | ⟨c25, H⟩
 ·
  have c25b0 : (a0_0 == 3) = true := beq_iff_eq.mpr c25
  have c25b1 : (a0_0 != 3) = false := bne_eq_false_iff_eq.mpr c25
  clear c25
  replace H := bindS H; obtain ⟨t235, A26, H⟩ := H
  replace H := iteB H; rcases H with ⟨rfl, H⟩ | ⟨rfl, H⟩
  ·
   replace H := bindS H; obtain ⟨t236, A28, H⟩ := H
   obtain rfl := Option.some.inj H
   go_enter Try.func52, Try.ntmps52
   go_wp2_with (first | ((with_reducible refine gate_dst (N := 1) rfl ?_); refine boxK HB (N := 1) (cs := #[.int .i64 a0_0, .int .i64 a0_1, .int .i64 a0_2]) (t := 28) (h := ?_); clear HB; intro gb1 hg w29 BK1 GW1 GE1 HB hb; clear hb hg; obtain ⟨hcz30_0, hcz30_1, hcz30_2, hfz30_0, hfz30_1, hfz30_2⟩ := kc3 BK1) | ((with_reducible refine gate_callee (f := 36) rfl ?_); refine goK (some 39) Try.func36 #[.int .i64 a0_1, .int .i64 2, .int .i64 9] ?_; (with_reducible refine (spec_l1In.calls a0_1 2 9 true _ A26.out).mono ?_); rintro e w' ⟨rfl, ⟨nd, rfl⟩⟩; refine ⟨_, rfl, ?_⟩) | (go_at_call 36; (with_reducible refine (spec_l1In.calls a0_2 0 1 t236 _ A28.out).mono ?_); rintro e w' ⟨rfl, ⟨nd, rfl⟩⟩))
   go_ret
   exact ⟨eqR, bw HB⟩
  obtain rfl := Option.some.inj H
  go_enter Try.func52, Try.ntmps52
  go_wp2_with (first | ((with_reducible refine gate_dst (N := 1) rfl ?_); refine boxK HB (N := 1) (cs := #[.int .i64 a0_0, .int .i64 a0_1, .int .i64 a0_2]) (t := 28) (h := ?_); clear HB; intro gb1 hg w31 BK1 GW1 GE1 HB hb; clear hb hg; obtain ⟨hcz32_0, hcz32_1, hcz32_2, hfz32_0, hfz32_1, hfz32_2⟩ := kc3 BK1) | ((with_reducible refine gate_callee (f := 36) rfl ?_); refine goK (some 39) Try.func36 #[.int .i64 a0_1, .int .i64 2, .int .i64 9] ?_; (with_reducible refine (spec_l1In.calls a0_1 2 9 false _ A26.out).mono ?_); rintro e w' ⟨rfl, ⟨nd, rfl⟩⟩; refine ⟨_, rfl, ?_⟩))
  go_ret
  exact ⟨eqR, bw HB⟩
 have c25b0 : (a0_0 == 3) = false := beq_eq_false_iff_ne.mpr c25
 have c25b1 : (a0_0 != 3) = true := bne_iff_ne.mpr c25
 replace H := iteC H; rcases H with ⟨c33, H⟩ | ⟨c33, H⟩
 rotate_left
 ·
  have c33b0 : (a0_0 == 4) = false := beq_eq_false_iff_ne.mpr c33
  have c33b1 : (a0_0 != 4) = true := bne_iff_ne.mpr c33
  obtain rfl := Option.some.inj H
  go_enter Try.func52, Try.ntmps52
  go_wp2_with (first | ((with_reducible refine gate_dst (N := 1) rfl ?_); refine boxK HB (N := 1) (cs := #[.int .i64 a0_0, .int .i64 a0_1, .int .i64 a0_2]) (t := 28) (h := ?_); clear HB; intro gb1 hg w40 BK1 GW1 GE1 HB hb; clear hb hg; obtain ⟨hcz41_0, hcz41_1, hcz41_2, hfz41_0, hfz41_1, hfz41_2⟩ := kc3 BK1))
  go_ret
  exact ⟨eqR, bw HB⟩
 have c33b0 : (a0_0 == 4) = true := beq_iff_eq.mpr c33
 have c33b1 : (a0_0 != 4) = false := bne_eq_false_iff_eq.mpr c33
 clear c33
 replace H := iteC H; rcases H with ⟨c34, H⟩ | ⟨c34, H⟩
 ·
  have c34b0 : (a0_1 == 0) = true := beq_iff_eq.mpr c34
  have c34b1 : (a0_1 != 0) = false := bne_eq_false_iff_eq.mpr c34
  clear c34
  replace H := bindS H; obtain ⟨t237, A35, H⟩ := H
  obtain rfl := Option.some.inj H
  go_enter Try.func52, Try.ntmps52
  go_wp2_with (first | ((with_reducible refine gate_dst (N := 1) rfl ?_); refine boxK HB (N := 1) (cs := #[.int .i64 a0_0, .int .i64 a0_1, .int .i64 a0_2]) (t := 28) (h := ?_); clear HB; intro gb1 hg w36 BK1 GW1 GE1 HB hb; clear hb hg; obtain ⟨hcz37_0, hcz37_1, hcz37_2, hfz37_0, hfz37_1, hfz37_2⟩ := kc3 BK1) | (go_at_call 36; (with_reducible refine (spec_l1In.calls a0_2 (-12) 12 t237 _ A35.out).mono ?_); rintro e w' ⟨rfl, ⟨nd, rfl⟩⟩))
  go_ret
  exact ⟨eqR, bw HB⟩
 have c34b0 : (a0_1 == 0) = false := beq_eq_false_iff_ne.mpr c34
 have c34b1 : (a0_1 != 0) = true := bne_iff_ne.mpr c34
 obtain rfl := Option.some.inj H
 go_enter Try.func52, Try.ntmps52
 go_wp2_with (first | ((with_reducible refine gate_dst (N := 1) rfl ?_); refine boxK HB (N := 1) (cs := #[.int .i64 a0_0, .int .i64 a0_1, .int .i64 a0_2]) (t := 28) (h := ?_); clear HB; intro gb1 hg w38 BK1 GW1 GE1 HB hb; clear hb hg; obtain ⟨hcz39_0, hcz39_1, hcz39_2, hfz39_0, hfz39_1, hfz39_2⟩ := kc3 BK1))
 go_ret
 exact ⟨eqR, bw HB⟩

/-! ### spec_pzGood: function 49 -/
def spec_pzGood.l0 : Nat → List (S28) → Int → Int → Option (Bool)
  | 0, _, _, _ => none
  | k + 1, x10, x11, x12 => if x12 < x11 then (if 0 ≤ x12 then (if x12 < (x10.length : Int) then ((spec_pzClue.f ((rd_T28 x10 x12).f0) ((rd_T28 x10 x12).f1) ((rd_T28 x10 x12).f2)).bind fun t241 => (if t241 = true then (spec_pzGood.l0 k x10 x11 (wrap64 (x12 + 1))) else (some false))) else (none)) else (none)) else (some true)
def spec_pzGood.f (k : Nat) (l0_0 : List (S28)) : Option (Bool) := if (l0_0.length : Int) > 6 then (some false) else (spec_pzGood.l0 k l0_0 (l0_0.length : Int) 0)
set_option maxHeartbeats 8000000 in
set_option maxRecDepth 100000 in
theorem spec_pzGood.calls (k : Nat) (A0_0 : Option Addr) (c0_0 : Nat) (l0_0 : List (S28)) (r : Bool) (w : World) (hr0_0 : Kd.C k28 w A0_0 l0_0.length l0_0) (hc0_0 : l0_0.length ≤ c0_0) (h : spec_pzGood.f k l0_0 = some r) :
    Calls Try.prog 49 #[.agg #[.slice A0_0 l0_0.length c0_0]] w fun e w' => e = .returned (.bool r) ∧ Below w.heap.size w w' := by
 have hu26 := Try.underlying26
 have hu28 := Try.underlying28
 have HR0_0 := Aside0.mk hr0_0
 have HC0_0 := Aside0.mk hc0_0
 clear hr0_0 hc0_0
 have HB := Aside0.mk (Below.refl w.heap.size w)
 have H : (if (l0_0.length : Int) > 6 then (some false) else (spec_pzGood.l0 k l0_0 (l0_0.length : Int) 0)) = some r := h
 clear h
 replace H := iteC H; rcases H with ⟨c2, H⟩ | ⟨c2, H⟩
 ·
  have c2b0 : decide (6 < (l0_0.length : Int)) = true := decide_eq_true c2
  have c2b1 : decide (6 < l0_0.length) = true := decide_eq_true (by omega)
  clear c2
  obtain rfl := Option.some.inj H
  go_enter Try.func49, Try.ntmps49
  go_wp2_with (first | ((with_reducible refine gate_dst (N := 1) rfl ?_); refine boxK HB (N := 1) (cs := #[.slice A0_0 l0_0.length c0_0]) (t := 26) (h := ?_); clear HB; intro gb1 hg w3 BK1 GW1 GE1 HB hb; clear hb hg; obtain ⟨hcz4_0, hfz4_0⟩ := kc1 BK1))
  go_ret
  exact ⟨eqR, bw HB⟩
 have c2b0 : decide (6 < (l0_0.length : Int)) = false := decide_eq_false c2
 have c2b1 : decide (6 < l0_0.length) = false := decide_eq_false (by omega)
 clear c2
 have H' := Aside0.mk H
 clear H
 go_enter Try.func49, Try.ntmps49
 go_wp2_with (first | ((with_reducible refine gate_dst (N := 1) rfl ?_); refine boxK HB (N := 1) (cs := #[.slice A0_0 l0_0.length c0_0]) (t := 26) (h := ?_); clear HB; intro gb1 hg w5 BK1 GW1 GE1 HB hb; clear hb hg; obtain ⟨hcz6_0, hfz6_0⟩ := kc1 BK1))
 go_loopg [12] k (fun kq v12 w' => ∃ (x12_1 : Int), v12 = .int .i64 x12_1 ∧ Aside0 (spec_pzGood.l0 kq l0_0 (l0_0.length : Int) x12_1 = some r) ∧ Aside0 (kq ≤ k) ∧ Aside0 (w'.heap[gb1]? = some (.cells #[(.slice A0_0 l0_0.length c0_0)] 26 (0, 0))) ∧ Aside0 (Below w.heap.size w w'))
 case atStart => exact ⟨(0), (by first | rfl | (simp; done) | (simp [*]; done)), H', ⟨Nat.le_refl _⟩, ⟨bk BK1⟩, ⟨bw HB⟩⟩
 case round =>
  clear H'
  try clear c2
  try clear c2b0
  try clear c2b1
  try clear hcz6_0
  try clear hfz6_0
  obtain ⟨x12_1, rfl, HA, HK1, BK1, HB⟩ := hrel
  cases gk with
  | zero => exact absurd HA.out (by simp [spec_pzGood.l0])
  | succ k1 =>
   have H := HA.out
   clear HA
   simp only [spec_pzGood.l0] at H
   replace H := iteC H; rcases H with ⟨c7, H⟩ | ⟨c7, H⟩
   rotate_left
   ·
    have c7b0 : decide (x12_1 < (l0_0.length : Int)) = false := decide_eq_false c7
    clear c7
    obtain rfl := Option.some.inj H
    go_wp2
    go_ret
    exact ⟨eqR, bw HB⟩
   have c7b0 : decide (x12_1 < (l0_0.length : Int)) = true := decide_eq_true c7
   clear c7
   replace H := iteS H; obtain ⟨c8, H⟩ := H
   have c8b0 : decide (0 ≤ x12_1) = true := decide_eq_true c8
   clear c8
   replace H := iteS H; obtain ⟨c9, H⟩ := H
   have c9b0 : decide (x12_1 < (l0_0.length : Int)) = true := decide_eq_true c9
   clear c9
   replace H := bindS H; obtain ⟨t241, A10, H⟩ := H
   replace H := iteB H; rcases H with ⟨rfl, H⟩ | ⟨rfl, H⟩
   ·
    have H' := Aside0.mk H
    clear H
    have p239 : 0 ≤ (x12_1 : Int) := of_decide_eq_true (by first | (with_reducible assumption) | assumption)
    have q239 : x12_1 < (l0_0.length : Int) := of_decide_eq_true (by first | (with_reducible assumption) | assumption)
    obtain ⟨ad239, e239, hx239_0, hx239_1, hx239_2⟩ := at_T28 HR0_0.out x12_1 p239 q239
    cases e239
    replace hx239_0 := (HB.out.cell (World.block_lt_of_cell? w _ hx239_0)).trans hx239_0
    replace hx239_1 := (HB.out.cell (World.block_lt_of_cell? w _ hx239_1)).trans hx239_1
    replace hx239_2 := (HB.out.cell (World.block_lt_of_cell? w _ hx239_2)).trans hx239_2
    replace p239 := eq_true p239
    replace q239 := eq_true q239
    go_wp2_with (first | ((with_reducible refine gate_dst (N := 4) rfl ?_); refine boxK HB (N := 4) (cs := #[.int .i64 0, .int .i64 0, .int .i64 0]) (t := 28) (h := ?_); clear HB; intro gb2 hg w12 BK2 GW2 GE2 HB hb; obtain ⟨NB1_2, NB2_1⟩ := nv1 hg BK1; replace BK1 := kb BK1 hb; clear hb hg; have hnb13 := up1 NB2_1; obtain ⟨hcz14_0, hcz14_1, hcz14_2, hfz14_0, hfz14_1, hfz14_2⟩ := kc3 BK2) | ((with_reducible refine gate_callee (f := 52) rfl ?_); refine goK (some 17) Try.func52 #[.agg #[.int .i64 ((rd_T28 l0_0 x12_1).f0), .int .i64 ((rd_T28 l0_0 x12_1).f1), .int .i64 ((rd_T28 l0_0 x12_1).f2)]] ?_; (with_reducible refine (spec_pzClue.calls ((rd_T28 l0_0 x12_1).f0) ((rd_T28 l0_0 x12_1).f1) ((rd_T28 l0_0 x12_1).f2) true _ A10.out).mono ?_); rintro e w15 ⟨rfl, hb⟩; refine ⟨_, rfl, ?_⟩; replace BK1 := kbt (cs' := #[.slice (some ad239) l0_0.length c0_0]) BK1 hb; replace BK2 := kbt (cs' := #[.int .i64 ((rd_T28 l0_0 x12_1).f0), .int .i64 ((rd_T28 l0_0 x12_1).f1), .int .i64 ((rd_T28 l0_0 x12_1).f2)]) BK2 hb; replace HB := kw HB hb; (try clear hb)))
    go_roundg k1
    case measure => have := HK1.out; omega
    case rel => exact ⟨(wrap64 (x12_1 + 1)), (by first | rfl | (simp; done) | (simp [*]; done)), H', ⟨by have := HK1.out; omega⟩, ⟨bk BK1⟩, ⟨bw HB⟩⟩
   obtain rfl := Option.some.inj H
   have p239 : 0 ≤ (x12_1 : Int) := of_decide_eq_true (by first | (with_reducible assumption) | assumption)
   have q239 : x12_1 < (l0_0.length : Int) := of_decide_eq_true (by first | (with_reducible assumption) | assumption)
   obtain ⟨ad239, e239, hx239_0, hx239_1, hx239_2⟩ := at_T28 HR0_0.out x12_1 p239 q239
   cases e239
   replace hx239_0 := (HB.out.cell (World.block_lt_of_cell? w _ hx239_0)).trans hx239_0
   replace hx239_1 := (HB.out.cell (World.block_lt_of_cell? w _ hx239_1)).trans hx239_1
   replace hx239_2 := (HB.out.cell (World.block_lt_of_cell? w _ hx239_2)).trans hx239_2
   replace p239 := eq_true p239
   replace q239 := eq_true q239
   go_wp2_with (first | ((with_reducible refine gate_dst (N := 4) rfl ?_); refine boxK HB (N := 4) (cs := #[.int .i64 0, .int .i64 0, .int .i64 0]) (t := 28) (h := ?_); clear HB; intro gb2 hg w16 BK2 GW2 GE2 HB hb; obtain ⟨NB1_2, NB2_1⟩ := nv1 hg BK1; replace BK1 := kb BK1 hb; clear hb hg; have hnb17 := up1 NB2_1; obtain ⟨hcz18_0, hcz18_1, hcz18_2, hfz18_0, hfz18_1, hfz18_2⟩ := kc3 BK2) | ((with_reducible refine gate_callee (f := 52) rfl ?_); refine goK (some 17) Try.func52 #[.agg #[.int .i64 ((rd_T28 l0_0 x12_1).f0), .int .i64 ((rd_T28 l0_0 x12_1).f1), .int .i64 ((rd_T28 l0_0 x12_1).f2)]] ?_; (with_reducible refine (spec_pzClue.calls ((rd_T28 l0_0 x12_1).f0) ((rd_T28 l0_0 x12_1).f1) ((rd_T28 l0_0 x12_1).f2) false _ A10.out).mono ?_); rintro e w19 ⟨rfl, hb⟩; refine ⟨_, rfl, ?_⟩; replace BK1 := kbt (cs' := #[.slice (some ad239) l0_0.length c0_0]) BK1 hb; replace BK2 := kbt (cs' := #[.int .i64 ((rd_T28 l0_0 x12_1).f0), .int .i64 ((rd_T28 l0_0 x12_1).f1), .int .i64 ((rd_T28 l0_0 x12_1).f2)]) BK2 hb; replace HB := kw HB hb; (try clear hb)))
   go_ret
   exact ⟨eqR, bw HB⟩

/-! ### spec_pzFits: function 53 -/
def spec_pzFits.f (a0_0 : Int) (a0_1 : Int) (a0_2 : Int) (a1_0 : Int) (a1_1 : Int) : Option (Bool) := (spec_pzValue.f a0_0 a0_1 a1_0 a1_1).bind fun t244 => (some (t244 == a0_2))
def spec_pzFits.T1 : Bool × List (List Nat × List Nat) := (true, [([], []), ([0], [0]), ([], []), ([2], [2]), ([], []), ([1, 3, 4], [1, 3, 4]), ([], []), ([6], [6]), ([5, 7], [5, 7]), ([8, 5, 0, 1, 2, 3, 4, 5, 6, 7, 8], [8])])
def spec_pzFits.B1 : List Nat := [0, 1, 0, 4, 0, 31, 0, 64, 255, 511]
theorem spec_pzFits.tab1 : rtab .any (opsOf Try.f53 1) = spec_pzFits.T1 := by kernel_rfl
theorem spec_pzFits.bits1 : waitsOk spec_pzFits.T1.2 spec_pzFits.B1 = true := by kernel_rfl
set_option maxHeartbeats 8000000 in
set_option maxRecDepth 100000 in
theorem spec_pzFits.calls (a0_0 : Int) (a0_1 : Int) (a0_2 : Int) (a1_0 : Int) (a1_1 : Int) (r : Bool) (w : World) (h : spec_pzFits.f a0_0 a0_1 a0_2 a1_0 a1_1 = some r) :
    Calls Try.prog 53 #[.agg #[.int .i64 a0_0, .int .i64 a0_1, .int .i64 a0_2], .agg #[.int .i64 a1_0, .int .i64 a1_1]] w fun e w' => e = .returned (.bool r) ∧ Below w.heap.size w w' := by
 have hu28 := Try.underlying28
 have hu23 := Try.underlying23
 have HB := Aside0.mk (Below.refl w.heap.size w)
 have H : ((spec_pzValue.f a0_0 a0_1 a1_0 a1_1).bind fun t244 => (some (t244 == a0_2))) = some r := h
 clear h
 replace H := bindS H; obtain ⟨t244, A3, H⟩ := H
 obtain rfl := Option.some.inj H
 go_enter Try.func53, Try.ntmps53
 try go_wp2_with (first | ((with_reducible refine gate_dst (N := 2) rfl ?_); refine boxK HB (N := 2) (cs := #[.int .i64 a0_0, .int .i64 a0_1, .int .i64 a0_2]) (t := 28) (h := ?_); clear HB; intro gb1 hg w4 BK1 GW1 GE1 HB hb; clear hb hg) | ((with_reducible refine gate_dst (N := 3) rfl ?_); refine boxK HB (N := 3) (cs := #[.int .i64 a1_0, .int .i64 a1_1]) (t := 23) (h := ?_); clear HB; intro gb2 hg w5 BK2 GW2 GE2 HB hb; obtain ⟨NB1_2, NB2_1⟩ := nv1 hg BK1; replace BK1 := kb BK1 hb; clear hb hg))
 refine md2 BK1 BK2 ?_
 clear BK1 BK2
 intro BK1 BK2
 replace HB := Aside0.mk (below_drew1 HB.out)
 refine startK 10 (S := fun w' => w'.cell? ⟨gb1, 0, none⟩ = some (.int .i64 a0_0) ∧ w'.cell? ⟨gb1, 1, none⟩ = some (.int .i64 a0_1) ∧ w'.cell? ⟨gb1, 2, none⟩ = some (.int .i64 a0_2) ∧ w'.cell? ⟨gb2, 0, none⟩ = some (.int .i64 a1_0) ∧ w'.cell? ⟨gb2, 1, none⟩ = some (.int .i64 a1_1)) (ds := []) spec_pzFits.tab1 spec_pzFits.bits1 (hS := ⟨bc BK1 0, bc BK1 1, bc BK1 2, bc BK2 0, bc BK2 1⟩) (h := fun hHeld HT_ HW_ => ?_)
 generalize w5.drew = w6 at BK1 BK2 HB hHeld ⊢
 refine pureK HT_ 0 (some 5) ?_
 refine pureK HT_ 2 (some 7) ?_
 refine pureK HT_ 6 (some 11) ?_
 refine takeK HT_ HW_ hHeld 1 (some 6) ?_
 refine takeK HT_ HW_ hHeld 3 (some 8) ?_
 refine takeK HT_ HW_ hHeld 4 (some 9) ?_
 refine takeK HT_ HW_ hHeld 7 (some 12) ?_
 refine oneK HT_ 5 (some 10) (fun K hK => ?_)
 refine goes_ Try.func62 (by kernel_rfl) rfl #[.int .i64 a0_0, .int .i64 a0_1, .agg #[.int .i64 a1_0, .int .i64 a1_1]] (by rfl) rfl rfl argR ?_
 with_reducible refine (spec_pzValue.calls a0_0 a0_1 a1_0 a1_1 t244 _ A3.out).mono ?_
 rintro e w7 ⟨rfl, hb⟩
 refine ⟨_, rfl, ?_⟩
 refine mv2 hb BK1 BK2 ?_
 clear BK1 BK2
 intro BK1 BK2
 replace HB := kw HB hb
 (try clear hb)
 (try clear hb2)
 (try clear hk)
 (try clear hi)
 refine hK.out _ _ ⟨bc BK1 0, bc BK1 1, bc BK1 2, bc BK2 0, bc BK2 1⟩ (fun hHeld => ?_)
 clear hK K
 refine normK (N := some 10) (h := ?_)
 refine pureK HT_ 8 (some 13) ?_
 refine pureK HT_ 9 (some 4) ?_
 refine done_ (done_of HT_.out (by kernel_rfl)) ?_
 try go_wp2
 go_ret
 exact ⟨eqR, bw HB⟩

/-! ### spec_pzAll: function 68 -/
mutual
def spec_pzAll.l0 : Nat → List (S28) → List (S23) → Int → Option ((List (S23)))
  | 0, _, _, _ => none
  | k + 1, x0, x3, x4 => if x4 ≤ 12 then (spec_pzAll.l1 k x0 x3 x4 0) else (some x3)
def spec_pzAll.l1 : Nat → List (S28) → List (S23) → Int → Int → Option ((List (S23)))
  | 0, _, _, _, _ => none
  | k + 1, x0, x3, x4, x5 => if x5 ≤ 12 then (spec_pzAll.l2 k x0 x3 x4 x5 true x0 (x0.length : Int) 0 x4 x5) else (spec_pzAll.l0 k x0 x3 (wrap64 (x4 + 1)))
def spec_pzAll.l2 : Nat → List (S28) → List (S23) → Int → Int → Bool → List (S28) → Int → Int → Int → Int → Option ((List (S23)))
  | 0, _, _, _, _, _, _, _, _, _, _ => none
  | k + 1, x0, x3, x4, x5, x7, x21, x22, x23, x246000, x246001 => if x23 < x22 then (if 0 ≤ x23 then (if x23 < (x21.length : Int) then (if x7 = true then ((spec_pzFits.f ((rd_T28 x21 x23).f0) ((rd_T28 x21 x23).f1) ((rd_T28 x21 x23).f2) x246000 x246001).bind fun t248 => (spec_pzAll.l2 k x0 x3 x4 x5 t248 x21 x22 (wrap64 (x23 + 1)) x246000 x246001)) else (spec_pzAll.l2 k x0 x3 x4 x5 false x21 x22 (wrap64 (x23 + 1)) x246000 x246001)) else (none)) else (none)) else (if x7 = true then (if x3.length < 8796093022208 then (spec_pzAll.l1 k x0 (x3 ++ [(⟨x246000, x246001⟩ : S23)]) x4 (wrap64 (x5 + 1))) else (none)) else (spec_pzAll.l1 k x0 x3 x4 (wrap64 (x5 + 1))))
end
def spec_pzAll.f (k : Nat) (l0 : List (S28)) : Option ((List (S23))) := spec_pzAll.l0 k l0 ([] : List (S23)) 1
set_option maxHeartbeats 8000000 in
set_option maxRecDepth 100000 in
theorem spec_pzAll.calls (k : Nat) (A0 : Option Addr) (c0 : Nat) (l0 : List (S28)) (r : List (S23)) (w : World) (hr0 : Kd.C k28 w A0 l0.length l0) (hc0 : l0.length ≤ c0) (h : spec_pzAll.f k l0 = some r) :
    Calls Try.prog 68 #[.slice A0 l0.length c0] w fun e w' => ∃ v0_ : Value, e = .returned (v0_) ∧ Kd.R k23 23 w' w.heap.size (fun _ => True) v0_ r ∧ Below w.heap.size w w' := by
 have hu23 := Try.underlying23
 have hu28 := Try.underlying28
 have HR0 := Aside0.mk hr0
 have HC0 := Aside0.mk hc0
 clear hr0 hc0
 have HB := Aside0.mk (Below.refl w.heap.size w)
 have H : (spec_pzAll.l0 k l0 ([] : List (S23)) 1) = some r := h
 clear h
 have H' := Aside0.mk H
 clear H
 go_enter Try.func68, Try.ntmps68
 go_wp2
 go_loopg [3, 4] k (fun kq v3 v4 w' => ∃ (x3_1 : List (S23)) (x4_1 : Int), v4 = .int .i64 x4_1 ∧ Aside0 (spec_pzAll.l0 kq l0 x3_1 x4_1 = some r) ∧ Aside0 (kq ≤ k) ∧ Aside0 (Kd.R k23 23 w' w.heap.size (fun _ => True) v3 x3_1) ∧ Aside0 (Below w.heap.size w w'))
 case atStart => exact ⟨(([] : List (S23))), (1), (by first | rfl | (simp; done) | (simp [*]; done)), H', ⟨Nat.le_refl _⟩, ⟨by first | exact Kd.R_nil _ _ _ _ _ | exact Kd.N_nil _ _ _ _ _ | exact Kd.V_nil _ _ _ _ _ | exact Kd.Q_nil _ _ _ _ _ | exact Kd.S_nil _ _ _ _ _⟩, ⟨bw HB⟩⟩
 case round =>
  clear H'
  obtain ⟨x3_1, x4_1, rfl, HA, HK1, HO_3, HB⟩ := hrel
  cases gk with
  | zero => exact absurd HA.out (by simp [spec_pzAll.l0])
  | succ k1 =>
   have H := HA.out
   clear HA
   simp only [spec_pzAll.l0] at H
   replace H := iteC H; rcases H with ⟨c2, H⟩ | ⟨c2, H⟩
   rotate_left
   ·
    have c2b0 : decide (x4_1 ≤ 12) = false := decide_eq_false c2
    clear c2
    obtain rfl := Option.some.inj H
    go_wp2
    go_ret
    exact ⟨_, eqR, ro HO_3, bw HB⟩
   have c2b0 : decide (x4_1 ≤ 12) = true := decide_eq_true c2
   clear c2
   have H' := Aside0.mk H
   clear H
   go_wp2
   go_loopg [3, 5] k1 (fun kq v3 v5 w' => ∃ (x3_2 : List (S23)) (x5_2 : Int), v5 = .int .i64 x5_2 ∧ Aside0 (spec_pzAll.l1 kq l0 x3_2 x4_1 x5_2 = some r) ∧ Aside0 (kq ≤ k1) ∧ Aside0 (Kd.R k23 23 w' w.heap.size (fun _ => True) v3 x3_2) ∧ Aside0 (Below w.heap.size w w'))
   case atStart => exact ⟨(x3_1), (0), (by first | rfl | (simp; done) | (simp [*]; done)), H', ⟨Nat.le_refl _⟩, ⟨ro HO_3⟩, ⟨bw HB⟩⟩
   case round =>
    clear H'
    try clear c2
    try clear c2b0
    obtain ⟨x3_2, x5_2, rfl, HA, HK2, HO_3, HB⟩ := hrel
    cases gk with
    | zero => exact absurd HA.out (by simp [spec_pzAll.l1])
    | succ k2 =>
     have H := HA.out
     clear HA
     simp only [spec_pzAll.l1] at H
     replace H := iteC H; rcases H with ⟨c3, H⟩ | ⟨c3, H⟩
     rotate_left
     ·
      have c3b0 : decide (x5_2 ≤ 12) = false := decide_eq_false c3
      clear c3
      have H' := Aside0.mk H
      clear H
      go_wp2
      go_roundg k2
      case measure => have := HK1.out; have := HK2.out; omega
      case rel => exact ⟨(x3_2), (wrap64 (x4_1 + 1)), (by first | rfl | (simp; done) | (simp [*]; done)), H', ⟨by have := HK1.out; have := HK2.out; omega⟩, ⟨ro HO_3⟩, ⟨bw HB⟩⟩
     have c3b0 : decide (x5_2 ≤ 12) = true := decide_eq_true c3
     clear c3
     have H' := Aside0.mk H
     clear H
     go_wp2_with (first | ((with_reducible refine gate_dst (N := 6) rfl ?_); refine boxK HB (N := 6) (cs := #[.int .i64 0, .int .i64 0]) (t := 23) (h := ?_); clear HB; intro gb1 hg w4 BK1 GW1 GE1 HB hb; replace HO_3 := Aside0.mk (Kd.R_below (Kd.R_elderB (ro HO_3) gb1 (Nat.le_of_eq hg.symm)) hb); clear hb hg; obtain ⟨hcz5_0, hcz5_1, hfz5_0, hfz5_1⟩ := kc2 BK1))
     go_loopg [7, 23] k2 (fun kq v7 v23 w' => ∃ (x7_3 : Bool) (x23_3 : Int), v7 = .bool x7_3 ∧ v23 = .int .i64 x23_3 ∧ Aside0 (spec_pzAll.l2 kq l0 x3_2 x4_1 x5_2 x7_3 l0 (l0.length : Int) x23_3 x4_1 x5_2 = some r) ∧ Aside0 (kq ≤ k2) ∧ Aside0 (Kd.R k23 23 w' w.heap.size (fun k_ => k_ ≠ gb1) u3 x3_2) ∧ Aside0 (w'.heap[gb1]? = some (.cells #[.int .i64 x4_1, .int .i64 x5_2] 23 (0, 0))) ∧ Aside0 (Below w.heap.size w w'))
     case atStart => exact ⟨(true), (0), (by first | rfl | (simp; done) | (simp [*]; done)), (by first | rfl | (simp; done) | (simp [*]; done)), H', ⟨Nat.le_refl _⟩, ⟨by (with_reducible repeat (first | apply Kd.R_alloc | apply Kd.R_drewN | apply Kd.R_drew)); exact Kd.R_mono (Kd.R_far (p := ⟨gb1, 1, none⟩) (Kd.R_far (p := ⟨gb1, 0, none⟩) (Kd.R_mono HO_3.out (fun k_ hk => (⟨hk, hk.2⟩ : _ ∧ k_ ≠ gb1))) (fun _ hk => hk.2) (.int .i64 x4_1)) (fun _ hk => hk.2) (.int .i64 x5_2)) (fun _ hk => hk.1.2)⟩, ⟨bt BK1⟩, ⟨bw HB⟩⟩
     case round =>
      clear H'
      try clear c2
      try clear c2b0
      try clear c3
      try clear c3b0
      try clear hcz5_0
      try clear hcz5_1
      try clear hfz5_0
      try clear hfz5_1
      obtain ⟨x7_3, x23_3, rfl, rfl, HA, HK3, HO_3, BK1, HB⟩ := hrel
      cases gk with
      | zero => exact absurd HA.out (by simp [spec_pzAll.l2])
      | succ k3 =>
       have H := HA.out
       clear HA
       simp only [spec_pzAll.l2] at H
       replace H := iteC H; rcases H with ⟨c6, H⟩ | ⟨c6, H⟩
       rotate_left
       ·
        have c6b0 : decide (x23_3 < (l0.length : Int)) = false := decide_eq_false c6
        clear c6
        replace H := iteB H; rcases H with ⟨rfl, H⟩ | ⟨rfl, H⟩
        rotate_left
        ·
         have H' := Aside0.mk H
         clear H
         go_wp2
         go_roundg k3
         case measure => have := HK1.out; have := HK2.out; have := HK3.out; omega
         case rel => exact ⟨(x3_2), (wrap64 (x5_2 + 1)), (by first | rfl | (simp; done) | (simp [*]; done)), H', ⟨by have := HK1.out; have := HK2.out; have := HK3.out; omega⟩, ⟨by (with_reducible repeat (first | apply Kd.R_alloc | apply Kd.R_drewN | apply Kd.R_drew)); exact Kd.R_mono HO_3.out (fun _ hk => trivial)⟩, ⟨bw HB⟩⟩
        replace H := iteS H; obtain ⟨c20, H⟩ := H
        have LMc20 := Aside0.mk c20
        clear c20
        obtain ⟨y249, hy249⟩ : ∃ y_ : List (S23), y_ = (x3_2 ++ [(⟨x4_1, x5_2⟩ : S23)]) := ⟨_, rfl⟩
        replace H : (spec_pzAll.l1 k3 l0 y249 x4_1 (wrap64 (x5_2 + 1))) = some r := by first | (rw [hy249]; with_reducible exact H) | (have H2_ := (Option.bind_some _ _).symm.trans H; first | (rw [hy249]; with_reducible exact H2_) | with_reducible exact H2_) | with_reducible exact H | (rw [hy249]; exact H) | exact H
        have Ny249 := Aside0.mk hy249
        clear hy249
        have H' := Aside0.mk H
        clear H
        obtain ⟨hcz21_0, hcz21_1, hfz21_0, hfz21_1⟩ := kc2 BK1
        go_wp2_with (first | ((with_reducible refine gate_builtin (b := .append) (xs := #[.tmp 35, .tmp 37]) rfl ?_); at_builtin; refine Kd.R_append k23 (w0 := w) w.heap.size rfl (.tmp 35) (.tmp 37) 40 23 (.agg #[(.int .i64 0), (.int .i64 0)]) 16 rfl Try.underlying40 info23 rfl (by decide) (by omega) u3 x3_2 (⟨x4_1, x5_2⟩ : S23) [.int .i64 x4_1, .int .i64 x5_2] (fun k_ => k_ ≠ gb1) (fun _ => False) rfl rfl ?aP (fun _ hk => hk.elim) ?aF ?aO ?aB ?aS ?aL ?_; (case aP => exact k23_mkM _ _ _ (⟨x4_1, x5_2⟩ : S23)); (case aB => exact (bw HB)); (case aF => exact (fun k_ hk => Kd.freshB (bk BK1) k_ hk)); (case aO => exact (ro HO_3)); (case aS => exact (below_size (bw HB))); (case aL => have := LMc20.out; omega); intro v250 w22 ho hb hg hat; rw [← Ny249.out] at ho; replace BK1 := Aside0.mk (blk_grown (bk BK1) hg (Kd.R_away HO_3.out (fun _ hk => hk))); replace HB := Aside0.mk (hb); have HO251 := Aside0.mk (ho); clear HO_3; clear ho hb hg hat))
        go_roundg k3
        case measure => have := HK1.out; have := HK2.out; have := HK3.out; omega
        case rel => exact ⟨(y249), (wrap64 (x5_2 + 1)), (by first | rfl | (simp; done) | (simp [*]; done)), H', ⟨by have := HK1.out; have := HK2.out; have := HK3.out; omega⟩, ⟨by (with_reducible repeat (first | apply Kd.R_alloc | apply Kd.R_drewN | apply Kd.R_drew)); exact Kd.R_mono HO251.out (fun _ hk => trivial)⟩, ⟨bw HB⟩⟩
       have c6b0 : decide (x23_3 < (l0.length : Int)) = true := decide_eq_true c6
       clear c6
       replace H := iteS H; obtain ⟨c7, H⟩ := H
       have c7b0 : decide (0 ≤ x23_3) = true := decide_eq_true c7
       clear c7
       replace H := iteS H; obtain ⟨c8, H⟩ := H
       have c8b0 : decide (x23_3 < (l0.length : Int)) = true := decide_eq_true c8
       clear c8
       replace H := iteB H; rcases H with ⟨rfl, H⟩ | ⟨rfl, H⟩
       ·
        replace H := bindS H; obtain ⟨t248, A10, H⟩ := H
        have H' := Aside0.mk H
        clear H
        have p246 : 0 ≤ (x23_3 : Int) := of_decide_eq_true (by first | (with_reducible assumption) | assumption)
        have q246 : x23_3 < (l0.length : Int) := of_decide_eq_true (by first | (with_reducible assumption) | assumption)
        obtain ⟨ad246, e246, hx246_0, hx246_1, hx246_2⟩ := at_T28 HR0.out x23_3 p246 q246
        cases e246
        replace hx246_0 := (HB.out.cell (World.block_lt_of_cell? w _ hx246_0)).trans hx246_0
        replace hx246_1 := (HB.out.cell (World.block_lt_of_cell? w _ hx246_1)).trans hx246_1
        replace hx246_2 := (HB.out.cell (World.block_lt_of_cell? w _ hx246_2)).trans hx246_2
        replace p246 := eq_true p246
        replace q246 := eq_true q246
        go_wp2_with (first | ((with_reducible refine gate_dst (N := 9) rfl ?_); refine boxK HB (N := 9) (cs := #[.int .i64 0, .int .i64 0, .int .i64 0]) (t := 28) (h := ?_); clear HB; intro gb2 hg w11 BK2 GW2 GE2 HB hb; replace HO_3 := ko HO_3 hb; obtain ⟨NB1_2, NB2_1⟩ := nv1 hg BK1; replace BK1 := kb BK1 hb; clear hb hg; have hnb12 := up1 NB2_1; obtain ⟨hcz13_0, hcz13_1, hcz13_2, hfz13_0, hfz13_1, hfz13_2⟩ := kc3 BK2; obtain ⟨hcz14_0, hcz14_1, hfz14_0, hfz14_1⟩ := kc2 BK1) | (go_at_call 53; (with_reducible refine (spec_pzFits.calls ((rd_T28 l0 x23_3).f0) ((rd_T28 l0 x23_3).f1) ((rd_T28 l0 x23_3).f2) x4_1 x5_2 t248 _ A10.out).mono ?_); rintro e w15 ⟨rfl, hb⟩; replace HO_3 := Aside0.mk (Kd.R_below (by (with_reducible repeat (first | apply Kd.R_alloc | apply Kd.R_drewN | apply Kd.R_drew)); exact (Kd.R_mono (Kd.R_far (p := ⟨gb2, 2, none⟩) (Kd.R_far (p := ⟨gb2, 1, none⟩) (Kd.R_far (p := ⟨gb2, 0, none⟩) (Kd.R_types HO_3.out BK2.out (by decide)) (fun _ hk => hk.2) (.int .i64 ((rd_T28 l0 x23_3).f0))) (fun _ hk => hk.2) (.int .i64 ((rd_T28 l0 x23_3).f1))) (fun _ hk => hk.2) (.int .i64 ((rd_T28 l0 x23_3).f2))) (fun _ h_ => h_.1))) hb); replace BK1 := kbt (cs' := #[.int .i64 x4_1, .int .i64 x5_2]) BK1 hb; replace BK2 := kbt (cs' := #[.int .i64 ((rd_T28 l0 x23_3).f0), .int .i64 ((rd_T28 l0 x23_3).f1), .int .i64 ((rd_T28 l0 x23_3).f2)]) BK2 hb; replace HB := kw HB hb; (try clear hb); (try clear hk)))
        go_roundg k3
        case measure => have := HK1.out; have := HK2.out; have := HK3.out; omega
        case rel => exact ⟨(t248), (wrap64 (x23_3 + 1)), (by first | rfl | (simp; done) | (simp [*]; done)), (by first | rfl | (simp; done) | (simp [*]; done)), H', ⟨by have := HK1.out; have := HK2.out; have := HK3.out; omega⟩, ⟨ro HO_3⟩, ⟨bk BK1⟩, ⟨bw HB⟩⟩
       have H' := Aside0.mk H
       clear H
       have p246 : 0 ≤ (x23_3 : Int) := of_decide_eq_true (by first | (with_reducible assumption) | assumption)
       have q246 : x23_3 < (l0.length : Int) := of_decide_eq_true (by first | (with_reducible assumption) | assumption)
       obtain ⟨ad246, e246, hx246_0, hx246_1, hx246_2⟩ := at_T28 HR0.out x23_3 p246 q246
       cases e246
       replace hx246_0 := (HB.out.cell (World.block_lt_of_cell? w _ hx246_0)).trans hx246_0
       replace hx246_1 := (HB.out.cell (World.block_lt_of_cell? w _ hx246_1)).trans hx246_1
       replace hx246_2 := (HB.out.cell (World.block_lt_of_cell? w _ hx246_2)).trans hx246_2
       replace p246 := eq_true p246
       replace q246 := eq_true q246
       go_wp2_with (first | ((with_reducible refine gate_dst (N := 9) rfl ?_); refine boxK HB (N := 9) (cs := #[.int .i64 0, .int .i64 0, .int .i64 0]) (t := 28) (h := ?_); clear HB; intro gb2 hg w16 BK2 GW2 GE2 HB hb; replace HO_3 := ko HO_3 hb; obtain ⟨NB1_2, NB2_1⟩ := nv1 hg BK1; replace BK1 := kb BK1 hb; clear hb hg; have hnb17 := up1 NB2_1; obtain ⟨hcz18_0, hcz18_1, hcz18_2, hfz18_0, hfz18_1, hfz18_2⟩ := kc3 BK2))
       go_roundg k3
       case measure => have := HK1.out; have := HK2.out; have := HK3.out; omega
       case rel => exact ⟨(false), (wrap64 (x23_3 + 1)), (by first | rfl | (simp; done) | (simp [*]; done)), (by first | rfl | (simp; done) | (simp [*]; done)), H', ⟨by have := HK1.out; have := HK2.out; have := HK3.out; omega⟩, ⟨by (with_reducible repeat (first | apply Kd.R_alloc | apply Kd.R_drewN | apply Kd.R_drew)); exact Kd.R_mono (Kd.R_far (p := ⟨gb2, 2, none⟩) (Kd.R_far (p := ⟨gb2, 1, none⟩) (Kd.R_far (p := ⟨gb2, 0, none⟩) (Kd.R_types HO_3.out BK2.out (by decide)) (fun _ hk => hk.2) (.int .i64 ((rd_T28 l0 x23_3).f0))) (fun _ hk => hk.2) (.int .i64 ((rd_T28 l0 x23_3).f1))) (fun _ hk => hk.2) (.int .i64 ((rd_T28 l0 x23_3).f2))) (fun _ hk => hk.1)⟩, ⟨bt BK1⟩, ⟨bw HB⟩⟩

/-! ### spec_pzSolved: function 50 -/
def spec_pzSolved.f (k : Nat) (l0 : List (S28)) : Option (Bool) := (spec_pzAll.f k l0).bind fun t252 => (some ((t252.length : Int) == 1))
set_option maxHeartbeats 8000000 in
set_option maxRecDepth 100000 in
theorem spec_pzSolved.calls (k : Nat) (A0 : Option Addr) (c0 : Nat) (l0 : List (S28)) (r : Bool) (w : World) (hr0 : Kd.C k28 w A0 l0.length l0) (hc0 : l0.length ≤ c0) (h : spec_pzSolved.f k l0 = some r) :
    Calls Try.prog 50 #[.slice A0 l0.length c0] w fun e w' => e = .returned (.bool r) ∧ Below w.heap.size w w' := by
 have HR0 := Aside0.mk hr0
 have HC0 := Aside0.mk hc0
 clear hr0 hc0
 have HB := Aside0.mk (Below.refl w.heap.size w)
 have H : ((spec_pzAll.f k l0).bind fun t252 => (some ((t252.length : Int) == 1))) = some r := h
 clear h
 replace H := bindS H; obtain ⟨t252, A2, H⟩ := H
 obtain rfl := Option.some.inj H
 go_enter Try.func50, Try.ntmps50
 go_wp2_with (first | ((with_reducible refine gate_callee (f := 68) rfl ?_); refine goK (some 4) Try.func68 #[.slice A0 l0.length c0] ?_; (with_reducible refine (spec_pzAll.calls k _ _ l0 t252 _ ?side1 ?side2 A2.out).mono ?_); (case side1 => repeat (first | exact HR0.out | (with_reducible refine Kd.C_alloc ?_ _) | (with_reducible refine Kd.C_drewN ?_ _) | (with_reducible refine Kd.C_drew ?_))); (case side2 => exact HC0.out); rintro e w3 ⟨v253, rfl, ho0, hb⟩; refine ⟨_, rfl, ?_⟩; have HO254 := Aside0.mk (Kd.R_lower ho0 (below_size (bw HB))); replace HB := kw HB hb; (try clear hb); (try clear ho0); obtain ⟨Ao4, co4, eo4⟩ := Kd.R_slice HO254.out; subst eo4))
 go_ret
 exact ⟨eqR, bw HB⟩

/-! ### spec_pzWithout: function 51 -/
def spec_pzWithout.f (l0 : List (S28)) (a1 : Int) : Option ((List (S28))) := (some (([] : List (S28)) : List (S28))).bind fun y255 => (if 0 ≤ a1 then (if a1 ≤ (l0.length : Int) then ((some (l0.take (a1 : Int).toNat : List (S28))).bind fun y258 => (if y255.length + y258.length < 5864062014805 then ((some (y255 ++ y258 : List (S28))).bind fun y262 => (if 0 ≤ (wrap64 (a1 + 1)) then (if (wrap64 (a1 + 1)) ≤ (l0.length : Int) then ((some (l0.drop ((wrap64 (a1 + 1)) : Int).toNat : List (S28))).bind fun y265 => (if y262.length + y265.length < 5864062014805 then (some (y262 ++ y265)) else (none))) else (none)) else (none))) else (none))) else (none)) else (none))
def spec_pzWithout.T1 : Bool × List (List Nat × List Nat) := (true, [([], []), ([], []), ([], []), ([1, 2], [1, 2]), ([0, 3], [0, 3]), ([], []), ([], []), ([6], [6]), ([5, 7], [5, 7]), ([4, 8, 4], [4, 8]), ([9, 9, 0, 1, 2, 3, 4, 5, 6, 7, 8, 9], [9])])
def spec_pzWithout.B1 : List Nat := [0, 0, 0, 6, 15, 0, 0, 64, 224, 511, 1023]
theorem spec_pzWithout.tab1 : rtab .any (opsOf Try.f51 1) = spec_pzWithout.T1 := by kernel_rfl
theorem spec_pzWithout.bits1 : waitsOk spec_pzWithout.T1.2 spec_pzWithout.B1 = true := by kernel_rfl
set_option maxHeartbeats 8000000 in
set_option maxRecDepth 100000 in
theorem spec_pzWithout.calls (A0 : Option Addr) (c0 : Nat) (l0 : List (S28)) (a1 : Int) (r : List (S28)) (w : World) (hr0 : Kd.C k28 w A0 l0.length l0) (hc0 : l0.length ≤ c0) (h : spec_pzWithout.f l0 a1 = some r) :
    Calls Try.prog 51 #[.slice A0 l0.length c0, .int .i64 a1] w fun e w' => ∃ v0_ : Value, e = .returned (v0_) ∧ Kd.R k28 28 w' w.heap.size (fun _ => True) v0_ r ∧ Below w.heap.size w w' := by
 have HR0 := Aside0.mk hr0
 have HC0 := Aside0.mk hc0
 clear hr0 hc0
 have HB := Aside0.mk (Below.refl w.heap.size w)
 have H : ((some (([] : List (S28)) : List (S28))).bind fun y255 => (if 0 ≤ a1 then (if a1 ≤ (l0.length : Int) then ((some (l0.take (a1 : Int).toNat : List (S28))).bind fun y258 => (if y255.length + y258.length < 5864062014805 then ((some (y255 ++ y258 : List (S28))).bind fun y262 => (if 0 ≤ (wrap64 (a1 + 1)) then (if (wrap64 (a1 + 1)) ≤ (l0.length : Int) then ((some (l0.drop ((wrap64 (a1 + 1)) : Int).toNat : List (S28))).bind fun y265 => (if y262.length + y265.length < 5864062014805 then (some (y262 ++ y265)) else (none))) else (none)) else (none))) else (none))) else (none)) else (none))) = some r := h
 clear h
 obtain ⟨y255, hy255⟩ : ∃ y_ : List (S28), y_ = (([] : List (S28))) := ⟨_, rfl⟩
 replace H : (if 0 ≤ a1 then (if a1 ≤ (l0.length : Int) then ((some (l0.take (a1 : Int).toNat : List (S28))).bind fun y258 => (if y255.length + y258.length < 5864062014805 then ((some (y255 ++ y258 : List (S28))).bind fun y262 => (if 0 ≤ (wrap64 (a1 + 1)) then (if (wrap64 (a1 + 1)) ≤ (l0.length : Int) then ((some (l0.drop ((wrap64 (a1 + 1)) : Int).toNat : List (S28))).bind fun y265 => (if y262.length + y265.length < 5864062014805 then (some (y262 ++ y265)) else (none))) else (none)) else (none))) else (none))) else (none)) else (none)) = some r := by first | (rw [hy255]; with_reducible exact H) | (have H2_ := (Option.bind_some _ _).symm.trans H; first | (rw [hy255]; with_reducible exact H2_) | with_reducible exact H2_) | with_reducible exact H | (rw [hy255]; exact H) | exact H
 have Ny255 := Aside0.mk hy255
 clear hy255
 replace H := iteS H; obtain ⟨c3, H⟩ := H
 have c3b0 := eq_true c3
 have c3b1 : decide (0 ≤ a1) = true := decide_eq_true c3
 clear c3
 replace H := iteS H; obtain ⟨c4, H⟩ := H
 have c4b0 := eq_true c4
 have c4b1 : decide (a1 ≤ (l0.length : Int)) = true := decide_eq_true c4
 clear c4
 obtain ⟨y258, hy258⟩ : ∃ y_ : List (S28), y_ = (l0.take (a1 : Int).toNat) := ⟨_, rfl⟩
 replace H : (if y255.length + y258.length < 5864062014805 then ((some (y255 ++ y258 : List (S28))).bind fun y262 => (if 0 ≤ (wrap64 (a1 + 1)) then (if (wrap64 (a1 + 1)) ≤ (l0.length : Int) then ((some (l0.drop ((wrap64 (a1 + 1)) : Int).toNat : List (S28))).bind fun y265 => (if y262.length + y265.length < 5864062014805 then (some (y262 ++ y265)) else (none))) else (none)) else (none))) else (none)) = some r := by first | (rw [hy258]; with_reducible exact H) | (have H2_ := (Option.bind_some _ _).symm.trans H; first | (rw [hy258]; with_reducible exact H2_) | with_reducible exact H2_) | with_reducible exact H | (rw [hy258]; exact H) | exact H
 have Ny258 := Aside0.mk hy258
 clear hy258
 replace H := iteS H; obtain ⟨c5, H⟩ := H
 have LMc5 := Aside0.mk c5
 clear c5
 obtain ⟨y262, hy262⟩ : ∃ y_ : List (S28), y_ = (y255 ++ y258) := ⟨_, rfl⟩
 replace H : (if 0 ≤ (wrap64 (a1 + 1)) then (if (wrap64 (a1 + 1)) ≤ (l0.length : Int) then ((some (l0.drop ((wrap64 (a1 + 1)) : Int).toNat : List (S28))).bind fun y265 => (if y262.length + y265.length < 5864062014805 then (some (y262 ++ y265)) else (none))) else (none)) else (none)) = some r := by first | (rw [hy262]; with_reducible exact H) | (have H2_ := (Option.bind_some _ _).symm.trans H; first | (rw [hy262]; with_reducible exact H2_) | with_reducible exact H2_) | with_reducible exact H | (rw [hy262]; exact H) | exact H
 have Ny262 := Aside0.mk hy262
 clear hy262
 obtain ⟨ji6, hji6⟩ : ∃ j_ : Int, (wrap64 (a1 + 1)) = j_ := ⟨_, rfl⟩
 replace H : (if 0 ≤ (ji6) then (if (ji6) ≤ (l0.length : Int) then ((some (l0.drop ((ji6) : Int).toNat : List (S28))).bind fun y265 => (if y262.length + y265.length < 5864062014805 then (some (y262 ++ y265)) else (none))) else (none)) else (none)) = some r := by first | (rw [hji6] at H; exact H) | (simp only [hji6] at H ⊢; exact H)
 have hji6w : (IntKind.i64.wrap (a1 + 1)) = ji6 := (i64_w _).trans hji6
 replace H := iteS H; obtain ⟨c7, H⟩ := H
 have c7b0 := eq_true c7
 have c7b1 : decide (0 ≤ (ji6)) = true := decide_eq_true c7
 clear c7
 replace H := iteS H; obtain ⟨c8, H⟩ := H
 have c8b0 := eq_true c8
 have c8b1 : decide ((ji6) ≤ (l0.length : Int)) = true := decide_eq_true c8
 clear c8
 obtain ⟨y265, hy265⟩ : ∃ y_ : List (S28), y_ = (l0.drop ((ji6) : Int).toNat) := ⟨_, rfl⟩
 replace H : (if y262.length + y265.length < 5864062014805 then (some (y262 ++ y265)) else (none)) = some r := by first | (rw [hy265]; with_reducible exact H) | (have H2_ := (Option.bind_some _ _).symm.trans H; first | (rw [hy265]; with_reducible exact H2_) | with_reducible exact H2_) | with_reducible exact H | (rw [hy265]; exact H) | exact H
 have Ny265 := Aside0.mk hy265
 clear hy265
 replace H := iteS H; obtain ⟨c9, H⟩ := H
 have LMc9 := Aside0.mk c9
 clear c9
 obtain ⟨y269, hy269⟩ : ∃ y_ : List (S28), y_ = (y262 ++ y265) := ⟨_, rfl⟩
 replace H : (some y269) = some r := by first | (rw [hy269]; with_reducible exact H) | (have H2_ := (Option.bind_some _ _).symm.trans H; first | (rw [hy269]; with_reducible exact H2_) | with_reducible exact H2_) | with_reducible exact H | (rw [hy269]; exact H) | exact H
 have Ny269 := Aside0.mk hy269
 clear hy269
 obtain rfl := Option.some.inj H
 go_enter Try.func51, Try.ntmps51
 try go_wp2
 replace HB := Aside0.mk (below_drew1 HB.out)
 have q11 : (a1 : Int) ≤ ((l0.length : Int) : Int) := of_decide_eq_true (by first | (with_reducible assumption) | assumption)
 obtain ⟨i011, hi011, _, hsz11, _⟩ := info_parts info28
 have hroom11 : l0.length ≤ c0 := HC0.out
 have hC11 : Kd.C k28 _ A0 l0.length l0 := HR0.out
 have hcut11 := cut_to (P := Try.prog) 24 28 .i64 Try.underlying24 hi011 A0 l0.length c0 a1 (of_decide_eq_true (by first | (with_reducible assumption) | assumption)) q11 hroom11
 have hr11 := Kd.C_take (m := (a1 : Int).toNat) hC11 (by omega)
 have hy11 : y258.length = (a1 : Int).toNat := (by rw [Ny258.out, List.length_take]; omega)
 rw [← Ny258.out] at hr11
 rw [← hy11] at hcut11
 have HR261 := Aside0.mk hr11
 have HC261 := Aside0.mk (show y258.length ≤ c0 from by omega)
 clear hr11 hC11 hroom11 hi011 hsz11
 have KY11 := Aside0.mk hy11
 clear hy11
 replace q11 := eq_true q11
 have q12 : ((ji6) : Int) ≤ ((l0.length : Int) : Int) := of_decide_eq_true (by first | (with_reducible assumption) | assumption)
 obtain ⟨i012, hi012, _, hsz12, _⟩ := info_parts info28
 have hroom12 : l0.length ≤ c0 := HC0.out
 have hC12 : Kd.C k28 _ A0 l0.length l0 := HR0.out
 have q012 : (0 : Int) ≤ ((ji6) : Int) := of_decide_eq_true (by first | (with_reducible assumption) | assumption)
 have hcut12 := cut_from (P := Try.prog) 24 28 .i64 Try.underlying24 hi012 3 hsz12 A0 l0.length c0 (ji6) q012 q12
 have hr12 := Kd.C_drop (m := ((ji6) : Int).toNat) (c := c0) hC12 (by omega) hroom12
 obtain ⟨A12, hA12⟩ : ∃ A1, A1 = (if c0 = ((ji6) : Int).toNat then A0 else (A0 : Option Addr).map (·.add (((ji6) : Int).toNat * 3))) := ⟨_, rfl⟩
 obtain ⟨c12, hc12⟩ : ∃ c1, c1 = c0 - ((ji6) : Int).toNat := ⟨_, rfl⟩
 have hy12 : y265.length = l0.length - ((ji6) : Int).toNat := (by rw [Ny265.out, List.length_drop] <;> omega)
 rw [show (l0).drop ((ji6) : Int).toNat = y265 from Ny265.out.symm] at hr12
 replace hr12 : Kd.C k28 _ A12 y265.length y265 := (by rw [hA12]; exact hr12)
 rw [← hy12, ← hA12, ← hc12] at hcut12
 have HR268 := Aside0.mk hr12
 have HC268 := Aside0.mk (show y265.length ≤ c12 from by rw [hy12, hc12]; exact Nat.sub_le_sub_right hroom12 _)
 clear hr12 hC12 hroom12 hi012 hsz12 hc12
 have KY12 := Aside0.mk hy12
 have KA12 := Aside0.mk hA12
 clear hy12 hA12
 replace q12 := eq_true q12
 refine startK 11 (S := fun w' => True) (ds := []) spec_pzWithout.tab1 spec_pzWithout.bits1 (hS := trivial) (h := fun hHeld HT_ HW_ => ?_)
 generalize w.drew = w10 at HB HR261 HR268 hHeld ⊢
 refine pureK HT_ 1 (some 6) ?_
 refine pureK HT_ 2 (some 7) ?_
 refine pureK HT_ 3 (some 8) ?_
 refine pureK HT_ 5 (some 10) ?_
 refine pureK HT_ 6 (some 11) ?_
 refine pureK HT_ 7 (some 12) ?_
 refine pureK HT_ 8 (some 13) ?_
 refine oneK HT_ 0 (some 5) (fun K hK => ?_)
 refine Kd.R_lit_step k28 _ 28 ?hg (N := 5) ?hd (xs := ([] : List (S28))) (inner := []) (ok := fun _ => True) (okp := fun _ => True) ?hr ?hp (fun _ hk => hk) trivial (Below.refl _ _) (Nat.le_refl _) (by simp) ?_; (case hd => rfl); (case hg => rfl); (case hr => first | (go_simp; done) | (go_simp; rfl)); (case hp => exact (Reps.none _ _))
 intro v256 w13 ho14 hb hg_ hnew_
 clear hg_ hnew_
 (first | rw [← Ny255.out] at ho14 | (simp only [Int.reduceToNat] at ho14; rw [← Ny255.out] at ho14))
 have HO257 := Aside0.mk (Kd.R_lower ho14 (below_size (bw HB)))
 replace HB := kw HB hb
 clear hb ho14
 refine hK.out _ _ trivial (fun hHeld => ?_)
 clear hK K
 refine normK (N := some 5) (h := ?_)
 refine oneK HT_ 4 (some 9) (fun K hK => ?_)
 refine Kd.R_append_rows_step k28 (w0 := w) w.heap.size (by rfl) (.tmp 5) (.tmp 8) 24 28 (.agg #[(.int .i64 0), (.int .i64 0), (.int .i64 0)]) 24 rfl Try.underlying24 info28 rfl (by decide) (by omega) v256 y255 y258 _ _ _ (fun _ => True) (fun _ => False) rfl rfl ?aO ?aR (fun _ _ h => h) (fun _ h => h.elim) ?aF ?aB ?aS ?aL ?_
 (case aR => exact cb HR261 HB)
 (case aB => exact (bw HB))
 (case aF => exact (fun _ _ => trivial))
 (case aO => exact (ro HO257))
 (case aS => exact (below_size (bw HB)))
 (case aL => have := LMc5.out; omega)
 intro v263 w15 ho hb hg hat
 rw [← Ny262.out] at ho
 replace HB := Aside0.mk (hb)
 have HO264 := Aside0.mk (ho)
 clear HO257
 clear ho hb hg hat
 refine hK.out _ _ trivial (fun hHeld => ?_)
 clear hK K
 refine normK (N := some 9) (h := ?_)
 refine oneK HT_ 9 (some 14) (fun K hK => ?_)
 refine Kd.R_append_rows_step k28 (w0 := w) w.heap.size (by rfl) (.tmp 9) (.tmp 13) 24 28 (.agg #[(.int .i64 0), (.int .i64 0), (.int .i64 0)]) 24 rfl Try.underlying24 info28 rfl (by decide) (by omega) v263 y262 y265 _ _ _ (fun _ => True) (fun _ => False) rfl rfl ?aO ?aR (fun _ _ h => h) (fun _ h => h.elim) ?aF ?aB ?aS ?aL ?_
 (case aR => exact cb HR268 HB)
 (case aB => exact (bw HB))
 (case aF => exact (fun _ _ => trivial))
 (case aO => exact (ro HO264))
 (case aS => exact (below_size (bw HB)))
 (case aL => have := LMc9.out; omega)
 intro v270 w16 ho hb hg hat
 rw [← Ny269.out] at ho
 replace HB := Aside0.mk (hb)
 have HO271 := Aside0.mk (ho)
 clear HO264
 clear ho hb hg hat
 refine hK.out _ _ trivial (fun hHeld => ?_)
 clear hK K
 refine normK (N := some 14) (h := ?_)
 refine pureK HT_ 10 (some 4) ?_
 refine done_ (done_of HT_.out (by kernel_rfl)) ?_
 try go_wp2
 go_ret
 exact ⟨_, by first | rfl | (simp [errW_none, errW_some] <;> rfl) | (simp only [← hji6]; first | rfl | (simp [errW_none, errW_some] <;> rfl)) | (simp [*, errW_none, errW_some] <;> rfl), ro HO271, bw HB⟩

end Go.Proofs.Ytlpjooijkeadbaa.PH
