-- Written by a program of our own (wip/tools/xprint.py) for this claim; Lean checks it.
import Derived.Test.YtlpjooijkeadbaaPHx0
import Derived.Test.YtlpjooijkeadbaaPHx3
import Derived.Test.YtlpjooijkeadbaaPHx5
import Derived.Test.YtlpjooijkeadbaaPHx6
namespace Go.Proofs.Ytlpjooijkeadbaa.PH
open Go.RowKit Go.Proofs.YtlpjooijkeadbaaK Go.Proofs.YtlpjooijkeadbaaW.PrintWords Go.Proofs.YtlpjooijkeadbaaW.PrintLast Go.Proofs.YtlpjooijkeadbaaW.PrintMore
attribute [local go_sem] max2_int min2_int max_two min_two max_three min_three max_four min_four   -- for this text's walks alone
set_option linter.unusedVariables false
set_option linter.unusedSimpArgs false

/-! ### spec_AddClue: function 19 -/
def spec_AddClue.f (k : Nat) (l0_0 : List (S28)) (a1_0 : Int) (a1_1 : Int) (a1_2 : Int) : Option ((List (S28)) × Bool) := (spec_pzGood.f k l0_0).bind fun t329 => (if t329 = true then ((spec_pzClue.f a1_0 a1_1 a1_2).bind fun t330 => (if t330 = true then (if (l0_0.length : Int) = 6 then (some (([] : List (S28)), false)) else ((some (([] : List (S28)) : List (S28))).bind fun y331 => (if y331.length + l0_0.length < 5864062014805 then ((some (y331 ++ l0_0 : List (S28))).bind fun y334 => ((some (([(⟨a1_0, a1_1, a1_2⟩ : S28)] : List (S28)) : List (S28))).bind fun y337 => (if y334.length + y337.length < 5864062014805 then (some ((y334 ++ y337), true)) else (none)))) else (none)))) else (some (([] : List (S28)), false)))) else (some (([] : List (S28)), false)))
def spec_AddClue.T3 : Bool × List (List Nat × List Nat) := (true, [([], []), ([], []), ([1], [1]), ([0, 2], [0, 2]), ([], []), ([4], [4]), ([3, 5, 3], [3, 5]), ([6], [6]), ([7, 6, 0, 1, 2, 3, 4, 5, 6, 7], [7]), ([8, 0, 1, 2, 3, 4, 5, 6, 7, 8], [])])
def spec_AddClue.B3 : List Nat := [0, 0, 2, 7, 0, 16, 63, 127, 255, 511]
theorem spec_AddClue.tab3 : rtab .any (opsOf Try.f19 3) = spec_AddClue.T3 := by kernel_rfl
theorem spec_AddClue.bits3 : waitsOk spec_AddClue.T3.2 spec_AddClue.B3 = true := by kernel_rfl
set_option maxHeartbeats 8000000 in
set_option maxRecDepth 100000 in
theorem spec_AddClue.calls (k : Nat) (A0_0 : Option Addr) (c0_0 : Nat) (l0_0 : List (S28)) (a1_0 : Int) (a1_1 : Int) (a1_2 : Int) (r1 : List (S28)) (r2 : Bool) (w : World) (hr0_0 : Kd.C k28 w A0_0 l0_0.length l0_0) (hc0_0 : l0_0.length ≤ c0_0) (h : spec_AddClue.f k l0_0 a1_0 a1_1 a1_2 = some (r1, r2)) :
    Calls Try.prog 19 #[.agg #[.slice A0_0 l0_0.length c0_0], .agg #[.int .i64 a1_0, .int .i64 a1_1, .int .i64 a1_2]] w fun e w' => ∃ v0_ : Value, e = .returned (.tuple #[.agg #[v0_], .bool r2]) ∧ Kd.R k28 28 w' w.heap.size (fun _ => True) v0_ r1 ∧ Below w.heap.size w w' := by
 have hu26 := Try.underlying26
 have hu28 := Try.underlying28
 have HR0_0 := Aside0.mk hr0_0
 have HC0_0 := Aside0.mk hc0_0
 clear hr0_0 hc0_0
 have HB := Aside0.mk (Below.refl w.heap.size w)
 have H : ((spec_pzGood.f k l0_0).bind fun t329 => (if t329 = true then ((spec_pzClue.f a1_0 a1_1 a1_2).bind fun t330 => (if t330 = true then (if (l0_0.length : Int) = 6 then (some (([] : List (S28)), false)) else ((some (([] : List (S28)) : List (S28))).bind fun y331 => (if y331.length + l0_0.length < 5864062014805 then ((some (y331 ++ l0_0 : List (S28))).bind fun y334 => ((some (([(⟨a1_0, a1_1, a1_2⟩ : S28)] : List (S28)) : List (S28))).bind fun y337 => (if y334.length + y337.length < 5864062014805 then (some ((y334 ++ y337), true)) else (none)))) else (none)))) else (some (([] : List (S28)), false)))) else (some (([] : List (S28)), false)))) = some (r1, r2) := h
 clear h
 replace H := bindS H; obtain ⟨t329, A3, H⟩ := H
 replace H := iteB H; rcases H with ⟨rfl, H⟩ | ⟨rfl, H⟩
 rotate_left
 ·
  simp only [Option.some.injEq, Prod.mk.injEq] at H
  obtain ⟨rfl, rfl⟩ := H
  go_enter Try.func19, Try.ntmps19
  go_wp2_with (first | ((with_reducible refine gate_dst (N := 2) rfl ?_); (try (refine gate_guard (by rfl) ?_; dsimp only)); refine boxK HB (N := 2) (cs := #[.slice A0_0 l0_0.length c0_0]) (t := 26) (h := ?_); clear HB; intro gb1 hg w55 BK1 GW1 GE1 HB hb; clear hb hg) | ((with_reducible refine gate_dst (N := 3) rfl ?_); (try (refine gate_guard (by rfl) ?_; dsimp only)); refine boxK HB (N := 3) (cs := #[.int .i64 a1_0, .int .i64 a1_1, .int .i64 a1_2]) (t := 28) (h := ?_); clear HB; intro gb2 hg w56 BK2 GW2 GE2 HB hb; obtain ⟨NB1_2, NB2_1⟩ := nv1 hg BK1; replace BK1 := kb BK1 hb; clear hb hg) | ((with_reducible refine gate_dst (N := 4) rfl ?_); (try (refine gate_guard (by rfl) ?_; dsimp only)); refine boxK HB (N := 4) (cs := #[.slice none 0 0]) (t := 26) (h := ?_); clear HB; intro gb3 hg w57 BK3 GW3 GE3 HB hb; obtain ⟨NB1_3, NB3_1, NB2_3, NB3_2⟩ := nv2 hg BK1 BK2; refine mv2 hb BK1 BK2 ?_; clear BK1 BK2; intro BK1 BK2; clear hb hg; have hnb58 := up2 NB1_2 NB1_3; obtain ⟨hcz60_0, hfz60_0⟩ := kc1 BK1) | ((with_reducible refine gate_callee (f := 49) rfl ?_); refine goK (some 7) Try.func49 #[.agg #[.slice A0_0 l0_0.length c0_0]] ?_; (with_reducible refine (spec_pzGood.calls k _ _ l0_0 false _ ?side1 ?side2 A3.out).mono ?_); (case side1 => exact cb HR0_0 HB); (case side2 => exact HC0_0.out); rintro e w61 ⟨rfl, hb⟩; refine ⟨_, rfl, ?_⟩; refine mv3 hb BK1 BK2 BK3 ?_; clear BK1 BK2 BK3; intro BK1 BK2 BK3; replace HB := kw HB hb; (try clear hb); have hnb62 := up1 NB3_2; obtain ⟨hcz63_0, hfz63_0⟩ := kc1 BK3))
  refine bodyPost_ret (results_ct rfl _ _ gb3 26 #[.slice none 0 0] (0, 0) _ rfl (bt BK3) Try.underlying26 rfl (by kernel_rfl)) rfl ?_
  exact ⟨_, eqR, by first | exact Kd.R_nil _ _ _ _ _ | exact Kd.N_nil _ _ _ _ _ | exact Kd.V_nil _ _ _ _ _ | exact Kd.Q_nil _ _ _ _ _ | exact Kd.S_nil _ _ _ _ _, bw HB⟩
 replace H := bindS H; obtain ⟨t330, A5, H⟩ := H
 replace H := iteB H; rcases H with ⟨rfl, H⟩ | ⟨rfl, H⟩
 rotate_left
 ·
  simp only [Option.some.injEq, Prod.mk.injEq] at H
  obtain ⟨rfl, rfl⟩ := H
  go_enter Try.func19, Try.ntmps19
  go_wp2_with (first | ((with_reducible refine gate_dst (N := 2) rfl ?_); (try (refine gate_guard (by rfl) ?_; dsimp only)); refine boxK HB (N := 2) (cs := #[.slice A0_0 l0_0.length c0_0]) (t := 26) (h := ?_); clear HB; intro gb1 hg w44 BK1 GW1 GE1 HB hb; clear hb hg) | ((with_reducible refine gate_dst (N := 3) rfl ?_); (try (refine gate_guard (by rfl) ?_; dsimp only)); refine boxK HB (N := 3) (cs := #[.int .i64 a1_0, .int .i64 a1_1, .int .i64 a1_2]) (t := 28) (h := ?_); clear HB; intro gb2 hg w45 BK2 GW2 GE2 HB hb; obtain ⟨NB1_2, NB2_1⟩ := nv1 hg BK1; replace BK1 := kb BK1 hb; clear hb hg) | ((with_reducible refine gate_dst (N := 4) rfl ?_); (try (refine gate_guard (by rfl) ?_; dsimp only)); refine boxK HB (N := 4) (cs := #[.slice none 0 0]) (t := 26) (h := ?_); clear HB; intro gb3 hg w46 BK3 GW3 GE3 HB hb; obtain ⟨NB1_3, NB3_1, NB2_3, NB3_2⟩ := nv2 hg BK1 BK2; refine mv2 hb BK1 BK2 ?_; clear BK1 BK2; intro BK1 BK2; clear hb hg; have hnb47 := up2 NB1_2 NB1_3; obtain ⟨hcz49_0, hfz49_0⟩ := kc1 BK1) | ((with_reducible refine gate_callee (f := 49) rfl ?_); refine goK (some 7) Try.func49 #[.agg #[.slice A0_0 l0_0.length c0_0]] ?_; (with_reducible refine (spec_pzGood.calls k _ _ l0_0 true _ ?side1 ?side2 A3.out).mono ?_); (case side1 => exact cb HR0_0 HB); (case side2 => exact HC0_0.out); rintro e w50 ⟨rfl, hb⟩; refine ⟨_, rfl, ?_⟩; refine mv3 hb BK1 BK2 BK3 ?_; clear BK1 BK2 BK3; intro BK1 BK2 BK3; replace HB := kw HB hb; (try clear hb); have hnb51 := up1 NB2_3; obtain ⟨hcz52_0, hcz52_1, hcz52_2, hfz52_0, hfz52_1, hfz52_2⟩ := kc3 BK2) | (go_at_call 52; (with_reducible refine (spec_pzClue.calls a1_0 a1_1 a1_2 false _ A5.out).mono ?_); rintro e w53 ⟨rfl, hb⟩; refine mv3 hb BK1 BK2 BK3 ?_; clear BK1 BK2 BK3; intro BK1 BK2 BK3; replace HB := kw HB hb; (try clear hb); obtain ⟨hcz54_0, hfz54_0⟩ := kc1 BK3))
  refine bodyPost_ret (results_ct rfl _ _ gb3 26 #[.slice none 0 0] (0, 0) _ rfl (bt BK3) Try.underlying26 rfl (by kernel_rfl)) rfl ?_
  exact ⟨_, eqR, by first | exact Kd.R_nil _ _ _ _ _ | exact Kd.N_nil _ _ _ _ _ | exact Kd.V_nil _ _ _ _ _ | exact Kd.Q_nil _ _ _ _ _ | exact Kd.S_nil _ _ _ _ _, bw HB⟩
 replace H := iteC H; rcases H with ⟨c7, H⟩ | ⟨c7, H⟩
 ·
  have c7b0 : ((l0_0.length : Int) == 6) = true := beq_iff_eq.mpr c7
  have c7b1 : ((l0_0.length : Int) != 6) = false := bne_eq_false_iff_eq.mpr c7
  clear c7
  simp only [Option.some.injEq, Prod.mk.injEq] at H
  obtain ⟨rfl, rfl⟩ := H
  go_enter Try.func19, Try.ntmps19
  go_wp2_with (first | ((with_reducible refine gate_dst (N := 2) rfl ?_); (try (refine gate_guard (by rfl) ?_; dsimp only)); refine boxK HB (N := 2) (cs := #[.slice A0_0 l0_0.length c0_0]) (t := 26) (h := ?_); clear HB; intro gb1 hg w8 BK1 GW1 GE1 HB hb; clear hb hg) | ((with_reducible refine gate_dst (N := 3) rfl ?_); (try (refine gate_guard (by rfl) ?_; dsimp only)); refine boxK HB (N := 3) (cs := #[.int .i64 a1_0, .int .i64 a1_1, .int .i64 a1_2]) (t := 28) (h := ?_); clear HB; intro gb2 hg w9 BK2 GW2 GE2 HB hb; obtain ⟨NB1_2, NB2_1⟩ := nv1 hg BK1; replace BK1 := kb BK1 hb; clear hb hg) | ((with_reducible refine gate_dst (N := 4) rfl ?_); (try (refine gate_guard (by rfl) ?_; dsimp only)); refine boxK HB (N := 4) (cs := #[.slice none 0 0]) (t := 26) (h := ?_); clear HB; intro gb3 hg w10 BK3 GW3 GE3 HB hb; obtain ⟨NB1_3, NB3_1, NB2_3, NB3_2⟩ := nv2 hg BK1 BK2; refine mv2 hb BK1 BK2 ?_; clear BK1 BK2; intro BK1 BK2; clear hb hg; have hnb11 := up2 NB1_2 NB1_3; obtain ⟨hcz13_0, hfz13_0⟩ := kc1 BK1) | ((with_reducible refine gate_callee (f := 49) rfl ?_); refine goK (some 7) Try.func49 #[.agg #[.slice A0_0 l0_0.length c0_0]] ?_; (with_reducible refine (spec_pzGood.calls k _ _ l0_0 true _ ?side1 ?side2 A3.out).mono ?_); (case side1 => exact cb HR0_0 HB); (case side2 => exact HC0_0.out); rintro e w14 ⟨rfl, hb⟩; refine ⟨_, rfl, ?_⟩; refine mv3 hb BK1 BK2 BK3 ?_; clear BK1 BK2 BK3; intro BK1 BK2 BK3; replace HB := kw HB hb; (try clear hb); have hnb15 := up1 NB2_3; obtain ⟨hcz16_0, hcz16_1, hcz16_2, hfz16_0, hfz16_1, hfz16_2⟩ := kc3 BK2) | (go_at_call 52; (with_reducible refine (spec_pzClue.calls a1_0 a1_1 a1_2 true _ A5.out).mono ?_); rintro e w17 ⟨rfl, hb⟩; refine mv3 hb BK1 BK2 BK3 ?_; clear BK1 BK2 BK3; intro BK1 BK2 BK3; replace HB := kw HB hb; (try clear hb); obtain ⟨hcz18_0, hfz18_0⟩ := kc1 BK1; obtain ⟨hcz19_0, hfz19_0⟩ := kc1 BK3))
  refine bodyPost_ret (results_ct rfl _ _ gb3 26 #[.slice none 0 0] (0, 0) _ rfl (bt BK3) Try.underlying26 rfl (by kernel_rfl)) rfl ?_
  exact ⟨_, eqR, by first | exact Kd.R_nil _ _ _ _ _ | exact Kd.N_nil _ _ _ _ _ | exact Kd.V_nil _ _ _ _ _ | exact Kd.Q_nil _ _ _ _ _ | exact Kd.S_nil _ _ _ _ _, bw HB⟩
 have c7b0 : ((l0_0.length : Int) == 6) = false := beq_eq_false_iff_ne.mpr c7
 have c7b1 : ((l0_0.length : Int) != 6) = true := bne_iff_ne.mpr c7
 obtain ⟨y331, hy331⟩ : ∃ y_ : List (S28), y_ = (([] : List (S28))) := ⟨_, rfl⟩
 replace H : (if y331.length + l0_0.length < 5864062014805 then ((some (y331 ++ l0_0 : List (S28))).bind fun y334 => ((some (([(⟨a1_0, a1_1, a1_2⟩ : S28)] : List (S28)) : List (S28))).bind fun y337 => (if y334.length + y337.length < 5864062014805 then (some ((y334 ++ y337), true)) else (none)))) else (none)) = some (r1, r2) := by first | (rw [hy331]; with_reducible exact H) | (have H2_ := (Option.bind_some _ _).symm.trans H; first | (rw [hy331]; with_reducible exact H2_) | with_reducible exact H2_) | with_reducible exact H | (rw [hy331]; exact H) | exact H
 have Ny331 := Aside0.mk hy331
 clear hy331
 replace H := iteS H; obtain ⟨c20, H⟩ := H
 have LMc20 := Aside0.mk c20
 clear c20
 obtain ⟨y334, hy334⟩ : ∃ y_ : List (S28), y_ = (y331 ++ l0_0) := ⟨_, rfl⟩
 replace H : ((some (([(⟨a1_0, a1_1, a1_2⟩ : S28)] : List (S28)) : List (S28))).bind fun y337 => (if y334.length + y337.length < 5864062014805 then (some ((y334 ++ y337), true)) else (none))) = some (r1, r2) := by first | (rw [hy334]; with_reducible exact H) | (have H2_ := (Option.bind_some _ _).symm.trans H; first | (rw [hy334]; with_reducible exact H2_) | with_reducible exact H2_) | with_reducible exact H | (rw [hy334]; exact H) | exact H
 have Ny334 := Aside0.mk hy334
 clear hy334
 obtain ⟨y337, hy337⟩ : ∃ y_ : List (S28), y_ = (([(⟨a1_0, a1_1, a1_2⟩ : S28)] : List (S28))) := ⟨_, rfl⟩
 replace H : (if y334.length + y337.length < 5864062014805 then (some ((y334 ++ y337), true)) else (none)) = some (r1, r2) := by first | (rw [hy337]; with_reducible exact H) | (have H2_ := (Option.bind_some _ _).symm.trans H; first | (rw [hy337]; with_reducible exact H2_) | with_reducible exact H2_) | with_reducible exact H | (rw [hy337]; exact H) | exact H
 have Ny337 := Aside0.mk hy337
 clear hy337
 replace H := iteS H; obtain ⟨c21, H⟩ := H
 have LMc21 := Aside0.mk c21
 clear c21
 obtain ⟨y340, hy340⟩ : ∃ y_ : List (S28), y_ = (y334 ++ y337) := ⟨_, rfl⟩
 replace H : (some (y340, true)) = some (r1, r2) := by first | (rw [hy340]; with_reducible exact H) | (have H2_ := (Option.bind_some _ _).symm.trans H; first | (rw [hy340]; with_reducible exact H2_) | with_reducible exact H2_) | with_reducible exact H | (rw [hy340]; exact H) | exact H
 have Ny340 := Aside0.mk hy340
 clear hy340
 simp only [Option.some.injEq, Prod.mk.injEq] at H
 obtain ⟨rfl, rfl⟩ := H
 go_enter Try.func19, Try.ntmps19
 try go_wp2_with (first | ((with_reducible refine gate_dst (N := 2) rfl ?_); (try (refine gate_guard (by rfl) ?_; dsimp only)); refine boxK HB (N := 2) (cs := #[.slice A0_0 l0_0.length c0_0]) (t := 26) (h := ?_); clear HB; intro gb1 hg w22 BK1 GW1 GE1 HB hb; clear hb hg) | ((with_reducible refine gate_dst (N := 3) rfl ?_); (try (refine gate_guard (by rfl) ?_; dsimp only)); refine boxK HB (N := 3) (cs := #[.int .i64 a1_0, .int .i64 a1_1, .int .i64 a1_2]) (t := 28) (h := ?_); clear HB; intro gb2 hg w23 BK2 GW2 GE2 HB hb; obtain ⟨NB1_2, NB2_1⟩ := nv1 hg BK1; replace BK1 := kb BK1 hb; clear hb hg) | ((with_reducible refine gate_dst (N := 4) rfl ?_); (try (refine gate_guard (by rfl) ?_; dsimp only)); refine boxK HB (N := 4) (cs := #[.slice none 0 0]) (t := 26) (h := ?_); clear HB; intro gb3 hg w24 BK3 GW3 GE3 HB hb; obtain ⟨NB1_3, NB3_1, NB2_3, NB3_2⟩ := nv2 hg BK1 BK2; refine mv2 hb BK1 BK2 ?_; clear BK1 BK2; intro BK1 BK2; clear hb hg; have hnb25 := up2 NB1_2 NB1_3; obtain ⟨hcz27_0, hfz27_0⟩ := kc1 BK1) | ((with_reducible refine gate_callee (f := 49) rfl ?_); refine goK (some 7) Try.func49 #[.agg #[.slice A0_0 l0_0.length c0_0]] ?_; (with_reducible refine (spec_pzGood.calls k _ _ l0_0 true _ ?side1 ?side2 A3.out).mono ?_); (case side1 => exact cb HR0_0 HB); (case side2 => exact HC0_0.out); rintro e w28 ⟨rfl, hb⟩; refine ⟨_, rfl, ?_⟩; refine mv3 hb BK1 BK2 BK3 ?_; clear BK1 BK2 BK3; intro BK1 BK2 BK3; replace HB := kw HB hb; (try clear hb); have hnb29 := up1 NB2_3; obtain ⟨hcz30_0, hcz30_1, hcz30_2, hfz30_0, hfz30_1, hfz30_2⟩ := kc3 BK2) | (go_at_call 52; (with_reducible refine (spec_pzClue.calls a1_0 a1_1 a1_2 true _ A5.out).mono ?_); rintro e w31 ⟨rfl, hb⟩; refine mv3 hb BK1 BK2 BK3 ?_; clear BK1 BK2 BK3; intro BK1 BK2 BK3; replace HB := kw HB hb; (try clear hb); obtain ⟨hcz32_0, hfz32_0⟩ := kc1 BK1))
 refine md3 BK1 BK2 BK3 ?_
 clear BK1 BK2 BK3
 intro BK1 BK2 BK3
 replace HB := Aside0.mk (below_drew1 HB.out)
 refine startK 10 (S := fun w' => w'.cell? ⟨gb1, 0, none⟩ = some (.slice A0_0 l0_0.length c0_0) ∧ w'.cell? ⟨gb2, 0, none⟩ = some (.int .i64 a1_0) ∧ w'.cell? ⟨gb2, 1, none⟩ = some (.int .i64 a1_1) ∧ w'.cell? ⟨gb2, 2, none⟩ = some (.int .i64 a1_2)) (ds := []) spec_AddClue.tab3 spec_AddClue.bits3 (hS := ⟨bc BK1 0, bc BK2 0, bc BK2 1, bc BK2 2⟩) (h := fun hHeld HT_ HW_ => ?_)
 generalize w31.drew = w33 at BK1 BK2 BK3 HB hHeld ⊢
 refine pureK HT_ 1 (some 22) ?_
 refine takeK HT_ HW_ hHeld 2 (some 23) ?_
 refine takeK HT_ HW_ hHeld 4 (some 25) ?_
 refine join_ (σ := Value × Value × Value) 4 #[true, true, true, true, true, true, false, false, false, false] (fun s_ => [(21, s_.1), (24, s_.2.1), (26, s_.2.2)]) (fun s_ w' => (w'.cell? ⟨gb1, 0, none⟩ = some (.slice A0_0 l0_0.length c0_0) ∧ w'.cell? ⟨gb2, 0, none⟩ = some (.int .i64 a1_0) ∧ w'.cell? ⟨gb2, 1, none⟩ = some (.int .i64 a1_1) ∧ w'.cell? ⟨gb2, 2, none⟩ = some (.int .i64 a1_2)) ∧ (Kd.R k28 28 w' w.heap.size (fun k_ => some k_ ≠ (s_.2.2 : Value).ownBlock ∧ k_ ≠ gb2) s_.2.1 y334) ∧ (Kd.R k28 28 w' w.heap.size (fun k_ => some k_ ≠ (s_.2.1 : Value).ownBlock ∧ k_ ≠ gb2) s_.2.2 y337) ∧ (w'.heap[gb1]? = some (.cells #[.slice A0_0 l0_0.length c0_0] 26 (0, 0))) ∧ (w'.heap[gb2]? = some (.cells #[.int .i64 a1_0, .int .i64 a1_1, .int .i64 a1_2] 28 (0, 0))) ∧ (w'.heap[gb3]? = some (.cells #[.slice none 0 0] 26 (0, 0))) ∧ (Below w.heap.size w w')) ?_ ?_
 rotate_left
 ·
  intro hCont
  refine two_ (i := 0) (j := 5) (Ni := some 21) (Nj := some 26) #[true, true, true, false, true, false, false, false, false, false] #[false, true, true, false, true, true, false, false, false, false] rfl rfl rfl rfl (two_of HT_.out (by kernel_rfl)) (by decide) (by decide) (fun K hK => ?_) (fun K hK => ?_)
  rotate_left
  ·
   skip
   refine Kd.R_lit_step k28 _ 28 ?hg (N := 26) ?hd (xs := ([(⟨a1_0, a1_1, a1_2⟩ : S28)] : List (S28))) (inner := [.int .i64 a1_0, .int .i64 a1_1, .int .i64 a1_2]) (ok := fun _ => True) (okp := fun _ => True) ?hr ?hp (fun _ hk => hk) trivial (Below.refl _ _) (Nat.le_refl _) (by simp) ?_; (case hd => rfl); (case hg => rfl); (case hr => first | (go_simp; done) | (go_simp; rfl)); (case hp => exact (Reps.c3 (show Kd.M k28 _ _ _ (⟨a1_0, a1_1, a1_2⟩ : S28) [.int .i64 a1_0, .int .i64 a1_1, .int .i64 a1_2] from (k28_mkM _ _ _ (⟨a1_0, a1_1, a1_2⟩ : S28) )) (Reps.none _ _)))
   intro v338 w34 ho35 hb hg_ hnew_
   clear hg_ hnew_
   (first | rw [← Ny337.out] at ho35 | (simp only [Int.reduceToNat] at ho35; rw [← Ny337.out] at ho35))
   have HO339 := Aside0.mk (Kd.R_lower (Kd.R_newB ho35 (bk BK2)) (below_size (bw HB)))
   refine mv3 hb BK1 BK2 BK3 ?_
   clear BK1 BK2 BK3
   intro BK1 BK2 BK3
   replace HB := kw HB hb
   clear hb ho35
   refine hK.out _ _ ⟨bc BK1 0, bc BK2 0, bc BK2 1, bc BK2 2⟩ (fun hHeld => ?_)
   clear hK K
   refine normK (N := some 26) (h := ?_)
   refine oneK HT_ 0 (some 21) (fun K hK => ?_)
   refine Kd.R_lit_step k28 _ 28 ?hg (N := 21) ?hd (xs := ([] : List (S28))) (inner := []) (ok := fun _ => True) (okp := fun _ => True) ?hr ?hp (fun _ hk => hk) trivial (Below.refl _ _) (Nat.le_refl _) (by simp) ?_; (case hd => rfl); (case hg => rfl); (case hr => first | (go_simp; done) | (go_simp; rfl)); (case hp => exact (Reps.none _ _))
   intro v332 w36 ho37 hb hg_ hnew_
   clear hg_ hnew_
   (first | rw [← Ny331.out] at ho37 | (simp only [Int.reduceToNat] at ho37; rw [← Ny331.out] at ho37))
   have HO333 := Aside0.mk (Kd.R_lower (Kd.R_newB (Kd.R_new' ho37 (Kd.R_lt (ro HO339))) (bk BK2)) (below_size (bw HB)))
   replace HO339 := Aside0.mk (Kd.R_elder' (ro HO339) (Kd.R_base ho37) hb)
   refine mv3 hb BK1 BK2 BK3 ?_
   clear BK1 BK2 BK3
   intro BK1 BK2 BK3
   replace HB := kw HB hb
   clear hb ho37
   refine hK.out _ _ ⟨bc BK1 0, bc BK2 0, bc BK2 1, bc BK2 2⟩ (fun hHeld => ?_)
   clear hK K
   refine normK (N := some 21) (h := ?_)
   refine oneK HT_ 3 (some 24) (fun K hK => ?_)
   refine Kd.R_append_rows_step k28 (w0 := w) w.heap.size (by rfl) (.tmp 21) (.tmp 23) 24 28 (.agg #[(.int .i64 0), (.int .i64 0), (.int .i64 0)]) 24 rfl Try.underlying24 info28 rfl (by decide) (by omega) v332 y331 l0_0 _ _ _ (fun k_ => some k_ ≠ (v338 : Value).ownBlock ∧ k_ ≠ gb2) (fun _ => False) rfl rfl ?aO ?aR (fun _ _ h => h) (fun _ h => h.elim) ?aF ?aB ?aS ?aL ?_
   (case aR => exact cb HR0_0 HB)
   (case aB => exact (bw HB))
   (case aF => exact (fun k_ hk => ⟨Kd.fresh' (Kd.R_lt (ro HO339)) k_ hk, Kd.freshB (bk BK2) k_ hk⟩))
   (case aO => exact (by (with_reducible repeat (first | apply Kd.R_alloc | apply Kd.R_drewN | apply Kd.R_drew)); exact Kd.R_mono HO333.out (fun _ hk => ⟨hk.1.2, hk.2⟩)))
   (case aS => exact (below_size (bw HB)))
   (case aL => have := LMc20.out; omega)
   intro v335 w38 ho hb hg hat
   rw [← Ny334.out] at ho
   replace BK1 := Aside0.mk (blk_grown (bk BK1) hg (Kd.R_ne HO333.out BK1.out (by decide)))
   replace BK2 := Aside0.mk (blk_grown (bk BK2) hg (Kd.R_away HO333.out (fun _ hk => hk.2)))
   replace BK3 := Aside0.mk (blk_grown (bk BK3) hg (Kd.R_ne HO333.out BK3.out (by decide)))
   replace HO339 := Aside0.mk (Kd.R_after (ok := (fun k_ => k_ ≠ gb2)) (by (with_reducible repeat (first | apply Kd.R_alloc | apply Kd.R_drewN | apply Kd.R_drew)); exact Kd.R_mono HO339.out (fun _ hk => ⟨hk.1.2, hk.2⟩)) hg hat)
   replace HB := Aside0.mk (hb)
   have HO336 := Aside0.mk (ho)
   clear HO333
   clear ho hb hg hat
   refine hK.out _ _ ⟨bc BK1 0, bc BK2 0, bc BK2 1, bc BK2 2⟩ (fun hHeld => ?_)
   clear hK K
   refine normK (N := some 24) (h := ?_)
   exact norm_ (by simp only [putAll, Act.put, List.setIfInBounds_toArray, List.set_cons_zero, List.set_cons_succ]) (hCont (v332, v335, v338) _ ⟨hHeld, (ro HO336), (by (with_reducible repeat (first | apply Kd.R_alloc | apply Kd.R_drewN | apply Kd.R_drew)); exact Kd.R_mono HO339.out (fun _ hk => ⟨hk.2, hk.1⟩)), (bk BK1), (bk BK2), (bk BK3), (bw HB)⟩)
  skip
  refine Kd.R_lit_step k28 _ 28 ?hg (N := 21) ?hd (xs := ([] : List (S28))) (inner := []) (ok := fun _ => True) (okp := fun _ => True) ?hr ?hp (fun _ hk => hk) trivial (Below.refl _ _) (Nat.le_refl _) (by simp) ?_; (case hd => rfl); (case hg => rfl); (case hr => first | (go_simp; done) | (go_simp; rfl)); (case hp => exact (Reps.none _ _))
  intro v332 w34 ho35 hb hg_ hnew_
  clear hg_ hnew_
  (first | rw [← Ny331.out] at ho35 | (simp only [Int.reduceToNat] at ho35; rw [← Ny331.out] at ho35))
  have HO333 := Aside0.mk (Kd.R_lower (Kd.R_newB ho35 (bk BK2)) (below_size (bw HB)))
  refine mv3 hb BK1 BK2 BK3 ?_
  clear BK1 BK2 BK3
  intro BK1 BK2 BK3
  replace HB := kw HB hb
  clear hb ho35
  refine hK.out _ _ ⟨bc BK1 0, bc BK2 0, bc BK2 1, bc BK2 2⟩ (fun hHeld => ?_)
  clear hK K
  refine normK (N := some 21) (h := ?_)
  refine two_ (i := 3) (j := 5) (Ni := some 24) (Nj := some 26) #[true, true, true, true, true, false, false, false, false, false] #[true, true, true, false, true, true, false, false, false, false] rfl rfl rfl rfl (two_of HT_.out (by kernel_rfl)) (by decide) (by decide) (fun K hK => ?_) (fun K hK => ?_)
  ·
   skip
   refine Kd.R_append_rows_step k28 (w0 := w) w.heap.size (by rfl) (.tmp 21) (.tmp 23) 24 28 (.agg #[(.int .i64 0), (.int .i64 0), (.int .i64 0)]) 24 rfl Try.underlying24 info28 rfl (by decide) (by omega) v332 y331 l0_0 _ _ _ (fun k_ => k_ ≠ gb2) (fun _ => False) rfl rfl ?aO ?aR (fun _ _ h => h) (fun _ h => h.elim) ?aF ?aB ?aS ?aL ?_
   (case aR => exact cb HR0_0 HB)
   (case aB => exact (bw HB))
   (case aF => exact (fun k_ hk => Kd.freshB (bk BK2) k_ hk))
   (case aO => exact (by (with_reducible repeat (first | apply Kd.R_alloc | apply Kd.R_drewN | apply Kd.R_drew)); exact Kd.R_mono HO333.out (fun _ hk => hk.2)))
   (case aS => exact (below_size (bw HB)))
   (case aL => have := LMc20.out; omega)
   intro v335 w36 ho hb hg hat
   rw [← Ny334.out] at ho
   replace BK1 := Aside0.mk (blk_grown (bk BK1) hg (Kd.R_ne HO333.out BK1.out (by decide)))
   replace BK2 := Aside0.mk (blk_grown (bk BK2) hg (Kd.R_away HO333.out (fun _ hk => hk.2)))
   replace BK3 := Aside0.mk (blk_grown (bk BK3) hg (Kd.R_ne HO333.out BK3.out (by decide)))
   replace HB := Aside0.mk (hb)
   have HO336 := Aside0.mk (ho)
   clear HO333
   clear ho hb hg hat
   refine hK.out _ _ ⟨bc BK1 0, bc BK2 0, bc BK2 1, bc BK2 2⟩ (fun hHeld => ?_)
   clear hK K
   refine normK (N := some 24) (h := ?_)
   refine oneK HT_ 5 (some 26) (fun K hK => ?_)
   refine Kd.R_lit_step k28 _ 28 ?hg (N := 26) ?hd (xs := ([(⟨a1_0, a1_1, a1_2⟩ : S28)] : List (S28))) (inner := [.int .i64 a1_0, .int .i64 a1_1, .int .i64 a1_2]) (ok := fun _ => True) (okp := fun _ => True) ?hr ?hp (fun _ hk => hk) trivial (Below.refl _ _) (Nat.le_refl _) (by simp) ?_; (case hd => rfl); (case hg => rfl); (case hr => first | (go_simp; done) | (go_simp; rfl)); (case hp => exact (Reps.c3 (show Kd.M k28 _ _ _ (⟨a1_0, a1_1, a1_2⟩ : S28) [.int .i64 a1_0, .int .i64 a1_1, .int .i64 a1_2] from (k28_mkM _ _ _ (⟨a1_0, a1_1, a1_2⟩ : S28) )) (Reps.none _ _)))
   intro v338 w37 ho38 hb hg_ hnew_
   clear hg_ hnew_
   (first | rw [← Ny337.out] at ho38 | (simp only [Int.reduceToNat] at ho38; rw [← Ny337.out] at ho38))
   have HO339 := Aside0.mk (Kd.R_lower (Kd.R_newB (Kd.R_new' ho38 (Kd.R_lt (ro HO336))) (bk BK2)) (below_size (bw HB)))
   replace HO336 := Aside0.mk (Kd.R_elder' (ro HO336) (Kd.R_base ho38) hb)
   refine mv3 hb BK1 BK2 BK3 ?_
   clear BK1 BK2 BK3
   intro BK1 BK2 BK3
   replace HB := kw HB hb
   clear hb ho38
   refine hK.out _ _ ⟨bc BK1 0, bc BK2 0, bc BK2 1, bc BK2 2⟩ (fun hHeld => ?_)
   clear hK K
   refine normK (N := some 26) (h := ?_)
   exact norm_ (by simp only [putAll, Act.put, List.setIfInBounds_toArray, List.set_cons_zero, List.set_cons_succ]) (hCont (v332, v335, v338) _ ⟨hHeld, (by (with_reducible repeat (first | apply Kd.R_alloc | apply Kd.R_drewN | apply Kd.R_drew)); exact Kd.R_mono HO336.out (fun _ hk => ⟨hk.2, hk.1⟩)), (by (with_reducible repeat (first | apply Kd.R_alloc | apply Kd.R_drewN | apply Kd.R_drew)); exact Kd.R_mono HO339.out (fun _ hk => ⟨hk.1.2, hk.2⟩)), (bk BK1), (bk BK2), (bk BK3), (bw HB)⟩)
  skip
  refine Kd.R_lit_step k28 _ 28 ?hg (N := 26) ?hd (xs := ([(⟨a1_0, a1_1, a1_2⟩ : S28)] : List (S28))) (inner := [.int .i64 a1_0, .int .i64 a1_1, .int .i64 a1_2]) (ok := fun _ => True) (okp := fun _ => True) ?hr ?hp (fun _ hk => hk) trivial (Below.refl _ _) (Nat.le_refl _) (by simp) ?_; (case hd => rfl); (case hg => rfl); (case hr => first | (go_simp; done) | (go_simp; rfl)); (case hp => exact (Reps.c3 (show Kd.M k28 _ _ _ (⟨a1_0, a1_1, a1_2⟩ : S28) [.int .i64 a1_0, .int .i64 a1_1, .int .i64 a1_2] from (k28_mkM _ _ _ (⟨a1_0, a1_1, a1_2⟩ : S28) )) (Reps.none _ _)))
  intro v338 w36 ho37 hb hg_ hnew_
  clear hg_ hnew_
  (first | rw [← Ny337.out] at ho37 | (simp only [Int.reduceToNat] at ho37; rw [← Ny337.out] at ho37))
  have HO339 := Aside0.mk (Kd.R_lower (Kd.R_newB (Kd.R_new' ho37 (Kd.R_lt (ro HO333))) (bk BK2)) (below_size (bw HB)))
  replace HO333 := Aside0.mk (Kd.R_elder' (ro HO333) (Kd.R_base ho37) hb)
  refine mv3 hb BK1 BK2 BK3 ?_
  clear BK1 BK2 BK3
  intro BK1 BK2 BK3
  replace HB := kw HB hb
  clear hb ho37
  refine hK.out _ _ ⟨bc BK1 0, bc BK2 0, bc BK2 1, bc BK2 2⟩ (fun hHeld => ?_)
  clear hK K
  refine normK (N := some 26) (h := ?_)
  refine oneK HT_ 3 (some 24) (fun K hK => ?_)
  refine Kd.R_append_rows_step k28 (w0 := w) w.heap.size (by rfl) (.tmp 21) (.tmp 23) 24 28 (.agg #[(.int .i64 0), (.int .i64 0), (.int .i64 0)]) 24 rfl Try.underlying24 info28 rfl (by decide) (by omega) v332 y331 l0_0 _ _ _ (fun k_ => some k_ ≠ (v338 : Value).ownBlock ∧ k_ ≠ gb2) (fun _ => False) rfl rfl ?aO ?aR (fun _ _ h => h) (fun _ h => h.elim) ?aF ?aB ?aS ?aL ?_
  (case aR => exact cb HR0_0 HB)
  (case aB => exact (bw HB))
  (case aF => exact (fun k_ hk => ⟨Kd.fresh' (Kd.R_lt (ro HO339)) k_ hk, Kd.freshB (bk BK2) k_ hk⟩))
  (case aO => exact (by (with_reducible repeat (first | apply Kd.R_alloc | apply Kd.R_drewN | apply Kd.R_drew)); exact Kd.R_mono HO333.out (fun _ hk => ⟨hk.2, hk.1.2⟩)))
  (case aS => exact (below_size (bw HB)))
  (case aL => have := LMc20.out; omega)
  intro v335 w38 ho hb hg hat
  rw [← Ny334.out] at ho
  replace BK1 := Aside0.mk (blk_grown (bk BK1) hg (Kd.R_ne HO333.out BK1.out (by decide)))
  replace BK2 := Aside0.mk (blk_grown (bk BK2) hg (Kd.R_away HO333.out (fun _ hk => hk.1.2)))
  replace BK3 := Aside0.mk (blk_grown (bk BK3) hg (Kd.R_ne HO333.out BK3.out (by decide)))
  replace HO339 := Aside0.mk (Kd.R_after (ok := (fun k_ => k_ ≠ gb2)) (by (with_reducible repeat (first | apply Kd.R_alloc | apply Kd.R_drewN | apply Kd.R_drew)); exact Kd.R_mono HO339.out (fun _ hk => ⟨hk.2, hk.1.2⟩)) hg hat)
  replace HB := Aside0.mk (hb)
  have HO336 := Aside0.mk (ho)
  clear HO333
  clear ho hb hg hat
  refine hK.out _ _ ⟨bc BK1 0, bc BK2 0, bc BK2 1, bc BK2 2⟩ (fun hHeld => ?_)
  clear hK K
  refine normK (N := some 24) (h := ?_)
  exact norm_ (by simp only [putAll, Act.put, List.setIfInBounds_toArray, List.set_cons_zero, List.set_cons_succ]) (hCont (v332, v335, v338) _ ⟨hHeld, (ro HO336), (by (with_reducible repeat (first | apply Kd.R_alloc | apply Kd.R_drewN | apply Kd.R_drew)); exact Kd.R_mono HO339.out (fun _ hk => ⟨hk.2, hk.1⟩)), (bk BK1), (bk BK2), (bk BK3), (bw HB)⟩)
 rintro ⟨v332, v335, v338⟩ w39 ⟨hS_, h0_, h1_, h2_, h3_, h4_, h5_⟩
 have n0_ : Aside0 (Kd.R k28 28 w39 w.heap.size (fun k_ => some k_ ≠ (v338 : Value).ownBlock ∧ k_ ≠ gb2) v335 y334) := ⟨h0_⟩
 have n1_ : Aside0 (Kd.R k28 28 w39 w.heap.size (fun k_ => some k_ ≠ (v335 : Value).ownBlock ∧ k_ ≠ gb2) v338 y337) := ⟨h1_⟩
 have n2_ : Aside0 (w39.heap[gb1]? = some (.cells #[.slice A0_0 l0_0.length c0_0] 26 (0, 0))) := ⟨h2_⟩
 have n3_ : Aside0 (w39.heap[gb2]? = some (.cells #[.int .i64 a1_0, .int .i64 a1_1, .int .i64 a1_2] 28 (0, 0))) := ⟨h3_⟩
 have n4_ : Aside0 (w39.heap[gb3]? = some (.cells #[.slice none 0 0] 26 (0, 0))) := ⟨h4_⟩
 have n5_ : Aside0 (Below w.heap.size w w39) := ⟨h5_⟩
 clear BK1
 clear BK2
 clear BK3
 clear HB
 clear h0_ h1_ h2_ h3_ h4_ h5_
 have HO336 := n0_
 have HO339 := n1_
 have BK1 := n2_
 have BK2 := n3_
 have BK3 := n4_
 have HB := n5_
 clear n0_ n1_ n2_ n3_ n4_ n5_
 have hHeld : w39.cell? ⟨gb1, 0, none⟩ = some (.slice A0_0 l0_0.length c0_0) ∧ w39.cell? ⟨gb2, 0, none⟩ = some (.int .i64 a1_0) ∧ w39.cell? ⟨gb2, 1, none⟩ = some (.int .i64 a1_1) ∧ w39.cell? ⟨gb2, 2, none⟩ = some (.int .i64 a1_2) := hS_
 obtain ⟨Ao41, co41, eo41⟩ := Kd.R_slice HO339.out
 (first | subst eo41 | (injection eo41 with f1_ f2_ f3_; have f4_ := f1_.symm; have f5_ := f3_.symm; clear f1_ f2_ f3_; subst f4_; subst f5_))
 refine norm_ (a' := ?_) ?_ ?_
 rotate_left
 ·
  simp only [putAll, Act.put, List.setIfInBounds_toArray, List.set_cons_zero, List.set_cons_succ]
  rfl
 refine oneK HT_ 6 (some 27) (fun K hK => ?_)
 refine Kd.R_append_rows_step k28 (w0 := w) w.heap.size (by rfl) (.tmp 24) (.tmp 26) 24 28 (.agg #[(.int .i64 0), (.int .i64 0), (.int .i64 0)]) 24 rfl Try.underlying24 info28 rfl (by decide) (by omega) v335 y334 y337 _ _ _ (fun k_ => some k_ ≠ (.slice Ao41 y337.length co41 : Value).ownBlock ∧ k_ ≠ gb2) (fun _ => False) rfl rfl ?aO ?aR (fun _ _ h => h) (fun _ h => h.elim) ?aF ?aB ?aS ?aL ?_
 (case aR => exact rs HO339)
 (case aB => exact (bw HB))
 (case aF => exact (fun k_ hk => ⟨Kd.fresh' (Kd.R_lt (ro HO339)) k_ hk, Kd.freshB (bk BK2) k_ hk⟩))
 (case aO => exact (ro HO336))
 (case aS => exact (below_size (bw HB)))
 (case aL => have := LMc21.out; omega)
 intro v341 w40 ho hb hg hat
 rw [← Ny340.out] at ho
 replace BK1 := Aside0.mk (blk_grown (bk BK1) hg (Kd.R_ne HO336.out BK1.out (by decide)))
 replace BK2 := Aside0.mk (blk_grown (bk BK2) hg (Kd.R_away HO336.out (fun _ hk => hk.2)))
 replace BK3 := Aside0.mk (blk_grown (bk BK3) hg (Kd.R_ne HO336.out BK3.out (by decide)))
 replace HO339 := Aside0.mk (Kd.R_after (ok := (fun k_ => k_ ≠ gb2)) (by (with_reducible repeat (first | apply Kd.R_alloc | apply Kd.R_drewN | apply Kd.R_drew)); exact Kd.R_mono HO339.out (fun _ hk => ⟨hk.2, hk.1⟩)) hg hat)
 replace HB := Aside0.mk (hb)
 have HO342 := Aside0.mk (ho)
 clear HO336
 clear ho hb hg hat
 obtain ⟨Ao42, co42, eo42⟩ := Kd.R_slice HO342.out
 (first | subst eo42 | (injection eo42 with f1_ f2_ f3_; have f4_ := f1_.symm; have f5_ := f3_.symm; clear f1_ f2_ f3_; subst f4_; subst f5_))
 refine hK.out _ _ ⟨bc BK1 0, bc BK2 0, bc BK2 1, bc BK2 2⟩ (fun hHeld => ?_)
 clear hK K
 refine normK (N := some 27) (h := ?_)
 refine pureK HT_ 7 (some 28) ?_
 refine oneK HT_ 8 none (fun K hK => ?_)
 have hs43 : w40.cell? ⟨gb3, 0, none⟩ = some (.slice none 0 0) := bc BK3 0
 have hfs43 := blk_frozen BK3.out 0
 have hns43_0 := NB1_3.out
 have hns43_1 := NB2_3.out
 have hms43_0 := NB3_1.out
 have hms43_1 := NB3_2.out
 refine skip_ (w1 := ?_) (by rfl) rfl ?_ ?_
 rotate_left
 ·
  go_simp
  rfl
 refine hK.out _ _ ⟨((cell_far (p := ⟨gb3, _, none⟩) NB1_3.out _).trans (hHeld.1)), ((cell_far (p := ⟨gb3, _, none⟩) NB2_3.out _).trans (hHeld.2.1)), ((cell_far (p := ⟨gb3, _, none⟩) NB2_3.out _).trans (hHeld.2.2.1)), ((cell_far (p := ⟨gb3, _, none⟩) NB2_3.out _).trans (hHeld.2.2.2))⟩ (fun hHeld => ?_)
 clear hK K
 refine pureK HT_ 9 (some 5) ?_
 refine done_ (done_of HT_.out (by kernel_rfl)) ?_
 try go_wp2
 refine bodyPost_ret (results_ct rfl _ _ gb3 26 #[.slice Ao42 y340.length co42] (0, 0) _ rfl (bt BK3) Try.underlying26 rfl (by kernel_rfl)) rfl ?_
 exact ⟨_, eqR, by (with_reducible repeat (first | apply Kd.R_alloc | apply Kd.R_drewN | apply Kd.R_drew)); exact Kd.R_mono (Kd.R_far (p := ⟨gb3, 0, none⟩) (Kd.R_types HO342.out BK3.out (by decide)) (fun _ hk => hk.2) (.slice Ao42 y340.length co42)) (fun _ hk => trivial), bw HB⟩

/-! ### impl_DropClue: function 20 -/
def impl_DropClue.f (k : Nat) (l0_0 : List (S28)) (a1 : Int) : Option ((List (S28)) × Bool) := (impl_IsPuzzle.f k l0_0).bind fun t345 => (if t345 = true then ((impl_within.f a1 0 (wrap64 ((l0_0.length : Int) - 1))).bind fun t346 => (if t346 = true then ((impl_withoutClue.f l0_0 a1).bind fun t347 => (some (t347, true))) else (some (([] : List (S28)), false)))) else (some (([] : List (S28)), false)))
set_option maxHeartbeats 8000000 in
set_option maxRecDepth 100000 in
theorem impl_DropClue.calls (k : Nat) (A0_0 : Option Addr) (c0_0 : Nat) (l0_0 : List (S28)) (a1 : Int) (r1 : List (S28)) (r2 : Bool) (w : World) (hr0_0 : Kd.C k28 w A0_0 l0_0.length l0_0) (hc0_0 : l0_0.length ≤ c0_0) (h : impl_DropClue.f k l0_0 a1 = some (r1, r2)) :
    Calls Try.prog 20 #[.agg #[.slice A0_0 l0_0.length c0_0], .int .i64 a1] w fun e w' => ∃ v0_ : Value, e = .returned (.tuple #[.agg #[v0_], .bool r2]) ∧ Kd.R k28 28 w' w.heap.size (fun _ => True) v0_ r1 ∧ Below w.heap.size w w' := by
 have hu26 := Try.underlying26
 have HR0_0 := Aside0.mk hr0_0
 have HC0_0 := Aside0.mk hc0_0
 clear hr0_0 hc0_0
 have HB := Aside0.mk (Below.refl w.heap.size w)
 have H : ((impl_IsPuzzle.f k l0_0).bind fun t345 => (if t345 = true then ((impl_within.f a1 0 (wrap64 ((l0_0.length : Int) - 1))).bind fun t346 => (if t346 = true then ((impl_withoutClue.f l0_0 a1).bind fun t347 => (some (t347, true))) else (some (([] : List (S28)), false)))) else (some (([] : List (S28)), false)))) = some (r1, r2) := h
 clear h
 replace H := bindS H; obtain ⟨t345, A3, H⟩ := H
 replace H := iteB H; rcases H with ⟨rfl, H⟩ | ⟨rfl, H⟩
 rotate_left
 ·
  simp only [Option.some.injEq, Prod.mk.injEq] at H
  obtain ⟨rfl, rfl⟩ := H
  go_enter Try.func20, Try.ntmps20
  go_wp2_with (first | ((with_reducible refine gate_dst (N := 2) rfl ?_); (try (refine gate_guard (by rfl) ?_; dsimp only)); refine boxK HB (N := 2) (cs := #[.slice A0_0 l0_0.length c0_0]) (t := 26) (h := ?_); clear HB; intro gb1 hg w25 BK1 GW1 GE1 HB hb; clear hb hg) | ((with_reducible refine gate_dst (N := 4) rfl ?_); (try (refine gate_guard (by rfl) ?_; dsimp only)); refine boxK HB (N := 4) (cs := #[.slice none 0 0]) (t := 26) (h := ?_); clear HB; intro gb2 hg w26 BK2 GW2 GE2 HB hb; obtain ⟨NB1_2, NB2_1⟩ := nv1 hg BK1; replace BK1 := kb BK1 hb; clear hb hg; have hnb27 := up1 NB1_2; obtain ⟨hcz28_0, hfz28_0⟩ := kc1 BK1) | ((with_reducible refine gate_callee (f := 11) rfl ?_); refine goK (some 7) Try.func11 #[.agg #[.slice A0_0 l0_0.length c0_0]] ?_; (with_reducible refine (impl_IsPuzzle.calls k _ _ l0_0 false _ ?side1 ?side2 A3.out).mono ?_); (case side1 => exact cb HR0_0 HB); (case side2 => exact HC0_0.out); rintro e w29 ⟨rfl, hb⟩; refine ⟨_, rfl, ?_⟩; refine mv2 hb BK1 BK2 ?_; clear BK1 BK2; intro BK1 BK2; replace HB := kw HB hb; (try clear hb); obtain ⟨hcz30_0, hfz30_0⟩ := kc1 BK2))
  refine bodyPost_ret (results_ct rfl _ _ gb2 26 #[.slice none 0 0] (0, 0) _ rfl (bt BK2) Try.underlying26 rfl (by kernel_rfl)) rfl ?_
  exact ⟨_, eqR, by first | exact Kd.R_nil _ _ _ _ _ | exact Kd.N_nil _ _ _ _ _ | exact Kd.V_nil _ _ _ _ _ | exact Kd.Q_nil _ _ _ _ _ | exact Kd.S_nil _ _ _ _ _, bw HB⟩
 replace H := bindS H; obtain ⟨t346, A5, H⟩ := H
 replace H := iteB H; rcases H with ⟨rfl, H⟩ | ⟨rfl, H⟩
 ·
  replace H := bindS H; obtain ⟨t347, A7, H⟩ := H
  simp only [Option.some.injEq, Prod.mk.injEq] at H
  obtain ⟨rfl, rfl⟩ := H
  go_enter Try.func20, Try.ntmps20
  go_wp2_with (first | ((with_reducible refine gate_dst (N := 2) rfl ?_); (try (refine gate_guard (by rfl) ?_; dsimp only)); refine boxK HB (N := 2) (cs := #[.slice A0_0 l0_0.length c0_0]) (t := 26) (h := ?_); clear HB; intro gb1 hg w8 BK1 GW1 GE1 HB hb; clear hb hg) | ((with_reducible refine gate_dst (N := 4) rfl ?_); (try (refine gate_guard (by rfl) ?_; dsimp only)); refine boxK HB (N := 4) (cs := #[.slice none 0 0]) (t := 26) (h := ?_); clear HB; intro gb2 hg w9 BK2 GW2 GE2 HB hb; obtain ⟨NB1_2, NB2_1⟩ := nv1 hg BK1; replace BK1 := kb BK1 hb; clear hb hg; have hnb10 := up1 NB1_2; obtain ⟨hcz11_0, hfz11_0⟩ := kc1 BK1) | ((with_reducible refine gate_callee (f := 11) rfl ?_); refine goK (some 7) Try.func11 #[.agg #[.slice A0_0 l0_0.length c0_0]] ?_; (with_reducible refine (impl_IsPuzzle.calls k _ _ l0_0 true _ ?side1 ?side2 A3.out).mono ?_); (case side1 => exact cb HR0_0 HB); (case side2 => exact HC0_0.out); rintro e w12 ⟨rfl, hb⟩; refine ⟨_, rfl, ?_⟩; refine mv2 hb BK1 BK2 ?_; clear BK1 BK2; intro BK1 BK2; replace HB := kw HB hb; (try clear hb); obtain ⟨hcz13_0, hfz13_0⟩ := kc1 BK1) | (go_at_call 33; (with_reducible refine (impl_within.calls a1 0 (wrap64 ((l0_0.length : Int) - 1)) true _ A5.out).mono ?_); rintro e w' ⟨rfl, ⟨nd, rfl⟩⟩; (try (rw [drewN_self w12]; generalize hq_ : World.drewN w12 _ = w12; have n0_ : Aside0 (w12.heap[gb1]? = some (.cells #[.slice A0_0 l0_0.length c0_0] 26 (0, 0))) := ⟨by rw [← hq_]; exact (bk BK1)⟩; have n1_ : Aside0 (w12.heap[gb2]? = some (.cells #[.slice none 0 0] 26 (0, 0))) := ⟨by rw [← hq_]; exact (bk BK2)⟩; have n2_ : Aside0 (Below w.heap.size w w12) := ⟨by rw [← hq_]; exact (bw HB)⟩; clear BK1 BK2 HB hq_; have BK1 := n0_; have BK2 := n1_; have HB := n2_; clear n0_ n1_ n2_)); obtain ⟨hcz14_0, hfz14_0⟩ := kc1 BK1) | ((with_reducible refine gate_callee (f := 48) rfl ?_); refine goK (some 22) Try.func48 #[.slice A0_0 l0_0.length c0_0, .int .i64 a1] ?_; (with_reducible refine (impl_withoutClue.calls _ _ l0_0 a1 t347 _ ?side1 ?side2 A7.out).mono ?_); (case side1 => exact cb HR0_0 HB); (case side2 => exact HC0_0.out); rintro e w15 ⟨v348, rfl, ho0, hb⟩; refine ⟨_, rfl, ?_⟩; have HO349 := Aside0.mk (Kd.R_lower ho0 (below_size (bw HB))); refine mv2 hb BK1 BK2 ?_; clear BK1 BK2; intro BK1 BK2; replace HB := kw HB hb; (try clear hb); (try clear ho0); obtain ⟨Ao16, co16, eo16⟩ := Kd.R_slice HO349.out; subst eo16; obtain ⟨hcz17_0, hfz17_0⟩ := kc1 BK2))
  refine bodyPost_ret (results_ct rfl _ _ gb2 26 #[.slice Ao16 t347.length co16] (0, 0) _ rfl (bt BK2) Try.underlying26 rfl (by kernel_rfl)) rfl ?_
  exact ⟨_, eqR, by (with_reducible repeat (first | apply Kd.R_alloc | apply Kd.R_drewN | apply Kd.R_drew)); exact Kd.R_mono (Kd.R_far (p := ⟨gb2, 0, none⟩) (Kd.R_types HO349.out BK2.out (by decide)) (fun _ hk => hk.2) (.slice Ao16 t347.length co16)) (fun _ hk => trivial), bw HB⟩
 simp only [Option.some.injEq, Prod.mk.injEq] at H
 obtain ⟨rfl, rfl⟩ := H
 go_enter Try.func20, Try.ntmps20
 go_wp2_with (first | ((with_reducible refine gate_dst (N := 2) rfl ?_); (try (refine gate_guard (by rfl) ?_; dsimp only)); refine boxK HB (N := 2) (cs := #[.slice A0_0 l0_0.length c0_0]) (t := 26) (h := ?_); clear HB; intro gb1 hg w18 BK1 GW1 GE1 HB hb; clear hb hg) | ((with_reducible refine gate_dst (N := 4) rfl ?_); (try (refine gate_guard (by rfl) ?_; dsimp only)); refine boxK HB (N := 4) (cs := #[.slice none 0 0]) (t := 26) (h := ?_); clear HB; intro gb2 hg w19 BK2 GW2 GE2 HB hb; obtain ⟨NB1_2, NB2_1⟩ := nv1 hg BK1; replace BK1 := kb BK1 hb; clear hb hg; have hnb20 := up1 NB1_2; obtain ⟨hcz21_0, hfz21_0⟩ := kc1 BK1) | ((with_reducible refine gate_callee (f := 11) rfl ?_); refine goK (some 7) Try.func11 #[.agg #[.slice A0_0 l0_0.length c0_0]] ?_; (with_reducible refine (impl_IsPuzzle.calls k _ _ l0_0 true _ ?side1 ?side2 A3.out).mono ?_); (case side1 => exact cb HR0_0 HB); (case side2 => exact HC0_0.out); rintro e w22 ⟨rfl, hb⟩; refine ⟨_, rfl, ?_⟩; refine mv2 hb BK1 BK2 ?_; clear BK1 BK2; intro BK1 BK2; replace HB := kw HB hb; (try clear hb); obtain ⟨hcz23_0, hfz23_0⟩ := kc1 BK1) | (go_at_call 33; (with_reducible refine (impl_within.calls a1 0 (wrap64 ((l0_0.length : Int) - 1)) false _ A5.out).mono ?_); rintro e w' ⟨rfl, ⟨nd, rfl⟩⟩; (try (rw [drewN_self w22]; generalize hq_ : World.drewN w22 _ = w22; have n0_ : Aside0 (w22.heap[gb1]? = some (.cells #[.slice A0_0 l0_0.length c0_0] 26 (0, 0))) := ⟨by rw [← hq_]; exact (bk BK1)⟩; have n1_ : Aside0 (w22.heap[gb2]? = some (.cells #[.slice none 0 0] 26 (0, 0))) := ⟨by rw [← hq_]; exact (bk BK2)⟩; have n2_ : Aside0 (Below w.heap.size w w22) := ⟨by rw [← hq_]; exact (bw HB)⟩; clear BK1 BK2 HB hq_; have BK1 := n0_; have BK2 := n1_; have HB := n2_; clear n0_ n1_ n2_)); obtain ⟨hcz24_0, hfz24_0⟩ := kc1 BK2))
 refine bodyPost_ret (results_ct rfl _ _ gb2 26 #[.slice none 0 0] (0, 0) _ rfl (bt BK2) Try.underlying26 rfl (by kernel_rfl)) rfl ?_
 exact ⟨_, eqR, by first | exact Kd.R_nil _ _ _ _ _ | exact Kd.N_nil _ _ _ _ _ | exact Kd.V_nil _ _ _ _ _ | exact Kd.Q_nil _ _ _ _ _ | exact Kd.S_nil _ _ _ _ _, bw HB⟩

/-! ### spec_DropClue: function 21 -/
def spec_DropClue.f (k : Nat) (l0_0 : List (S28)) (a1 : Int) : Option ((List (S28)) × Bool) := (spec_pzGood.f k l0_0).bind fun t352 => (if t352 = true then ((spec_l1In.f a1 0 (wrap64 ((l0_0.length : Int) - 1))).bind fun t353 => (if t353 = true then ((spec_pzWithout.f l0_0 a1).bind fun t354 => (some (t354, true))) else (some (([] : List (S28)), false)))) else (some (([] : List (S28)), false)))
set_option maxHeartbeats 8000000 in
set_option maxRecDepth 100000 in
theorem spec_DropClue.calls (k : Nat) (A0_0 : Option Addr) (c0_0 : Nat) (l0_0 : List (S28)) (a1 : Int) (r1 : List (S28)) (r2 : Bool) (w : World) (hr0_0 : Kd.C k28 w A0_0 l0_0.length l0_0) (hc0_0 : l0_0.length ≤ c0_0) (h : spec_DropClue.f k l0_0 a1 = some (r1, r2)) :
    Calls Try.prog 21 #[.agg #[.slice A0_0 l0_0.length c0_0], .int .i64 a1] w fun e w' => ∃ v0_ : Value, e = .returned (.tuple #[.agg #[v0_], .bool r2]) ∧ Kd.R k28 28 w' w.heap.size (fun _ => True) v0_ r1 ∧ Below w.heap.size w w' := by
 have hu26 := Try.underlying26
 have HR0_0 := Aside0.mk hr0_0
 have HC0_0 := Aside0.mk hc0_0
 clear hr0_0 hc0_0
 have HB := Aside0.mk (Below.refl w.heap.size w)
 have H : ((spec_pzGood.f k l0_0).bind fun t352 => (if t352 = true then ((spec_l1In.f a1 0 (wrap64 ((l0_0.length : Int) - 1))).bind fun t353 => (if t353 = true then ((spec_pzWithout.f l0_0 a1).bind fun t354 => (some (t354, true))) else (some (([] : List (S28)), false)))) else (some (([] : List (S28)), false)))) = some (r1, r2) := h
 clear h
 replace H := bindS H; obtain ⟨t352, A3, H⟩ := H
 replace H := iteB H; rcases H with ⟨rfl, H⟩ | ⟨rfl, H⟩
 rotate_left
 ·
  simp only [Option.some.injEq, Prod.mk.injEq] at H
  obtain ⟨rfl, rfl⟩ := H
  go_enter Try.func21, Try.ntmps21
  go_wp2_with (first | ((with_reducible refine gate_dst (N := 2) rfl ?_); (try (refine gate_guard (by rfl) ?_; dsimp only)); refine boxK HB (N := 2) (cs := #[.slice A0_0 l0_0.length c0_0]) (t := 26) (h := ?_); clear HB; intro gb1 hg w25 BK1 GW1 GE1 HB hb; clear hb hg) | ((with_reducible refine gate_dst (N := 4) rfl ?_); (try (refine gate_guard (by rfl) ?_; dsimp only)); refine boxK HB (N := 4) (cs := #[.slice none 0 0]) (t := 26) (h := ?_); clear HB; intro gb2 hg w26 BK2 GW2 GE2 HB hb; obtain ⟨NB1_2, NB2_1⟩ := nv1 hg BK1; replace BK1 := kb BK1 hb; clear hb hg; have hnb27 := up1 NB1_2; obtain ⟨hcz28_0, hfz28_0⟩ := kc1 BK1) | ((with_reducible refine gate_callee (f := 49) rfl ?_); refine goK (some 7) Try.func49 #[.agg #[.slice A0_0 l0_0.length c0_0]] ?_; (with_reducible refine (spec_pzGood.calls k _ _ l0_0 false _ ?side1 ?side2 A3.out).mono ?_); (case side1 => exact cb HR0_0 HB); (case side2 => exact HC0_0.out); rintro e w29 ⟨rfl, hb⟩; refine ⟨_, rfl, ?_⟩; refine mv2 hb BK1 BK2 ?_; clear BK1 BK2; intro BK1 BK2; replace HB := kw HB hb; (try clear hb); obtain ⟨hcz30_0, hfz30_0⟩ := kc1 BK2))
  refine bodyPost_ret (results_ct rfl _ _ gb2 26 #[.slice none 0 0] (0, 0) _ rfl (bt BK2) Try.underlying26 rfl (by kernel_rfl)) rfl ?_
  exact ⟨_, eqR, by first | exact Kd.R_nil _ _ _ _ _ | exact Kd.N_nil _ _ _ _ _ | exact Kd.V_nil _ _ _ _ _ | exact Kd.Q_nil _ _ _ _ _ | exact Kd.S_nil _ _ _ _ _, bw HB⟩
 replace H := bindS H; obtain ⟨t353, A5, H⟩ := H
 replace H := iteB H; rcases H with ⟨rfl, H⟩ | ⟨rfl, H⟩
 ·
  replace H := bindS H; obtain ⟨t354, A7, H⟩ := H
  simp only [Option.some.injEq, Prod.mk.injEq] at H
  obtain ⟨rfl, rfl⟩ := H
  go_enter Try.func21, Try.ntmps21
  go_wp2_with (first | ((with_reducible refine gate_dst (N := 2) rfl ?_); (try (refine gate_guard (by rfl) ?_; dsimp only)); refine boxK HB (N := 2) (cs := #[.slice A0_0 l0_0.length c0_0]) (t := 26) (h := ?_); clear HB; intro gb1 hg w8 BK1 GW1 GE1 HB hb; clear hb hg) | ((with_reducible refine gate_dst (N := 4) rfl ?_); (try (refine gate_guard (by rfl) ?_; dsimp only)); refine boxK HB (N := 4) (cs := #[.slice none 0 0]) (t := 26) (h := ?_); clear HB; intro gb2 hg w9 BK2 GW2 GE2 HB hb; obtain ⟨NB1_2, NB2_1⟩ := nv1 hg BK1; replace BK1 := kb BK1 hb; clear hb hg; have hnb10 := up1 NB1_2; obtain ⟨hcz11_0, hfz11_0⟩ := kc1 BK1) | ((with_reducible refine gate_callee (f := 49) rfl ?_); refine goK (some 7) Try.func49 #[.agg #[.slice A0_0 l0_0.length c0_0]] ?_; (with_reducible refine (spec_pzGood.calls k _ _ l0_0 true _ ?side1 ?side2 A3.out).mono ?_); (case side1 => exact cb HR0_0 HB); (case side2 => exact HC0_0.out); rintro e w12 ⟨rfl, hb⟩; refine ⟨_, rfl, ?_⟩; refine mv2 hb BK1 BK2 ?_; clear BK1 BK2; intro BK1 BK2; replace HB := kw HB hb; (try clear hb); obtain ⟨hcz13_0, hfz13_0⟩ := kc1 BK1) | (go_at_call 36; (with_reducible refine (spec_l1In.calls a1 0 (wrap64 ((l0_0.length : Int) - 1)) true _ A5.out).mono ?_); rintro e w' ⟨rfl, ⟨nd, rfl⟩⟩; (try (rw [drewN_self w12]; generalize hq_ : World.drewN w12 _ = w12; have n0_ : Aside0 (w12.heap[gb1]? = some (.cells #[.slice A0_0 l0_0.length c0_0] 26 (0, 0))) := ⟨by rw [← hq_]; exact (bk BK1)⟩; have n1_ : Aside0 (w12.heap[gb2]? = some (.cells #[.slice none 0 0] 26 (0, 0))) := ⟨by rw [← hq_]; exact (bk BK2)⟩; have n2_ : Aside0 (Below w.heap.size w w12) := ⟨by rw [← hq_]; exact (bw HB)⟩; clear BK1 BK2 HB hq_; have BK1 := n0_; have BK2 := n1_; have HB := n2_; clear n0_ n1_ n2_)); obtain ⟨hcz14_0, hfz14_0⟩ := kc1 BK1) | ((with_reducible refine gate_callee (f := 51) rfl ?_); refine goK (some 22) Try.func51 #[.slice A0_0 l0_0.length c0_0, .int .i64 a1] ?_; (with_reducible refine (spec_pzWithout.calls _ _ l0_0 a1 t354 _ ?side1 ?side2 A7.out).mono ?_); (case side1 => exact cb HR0_0 HB); (case side2 => exact HC0_0.out); rintro e w15 ⟨v355, rfl, ho0, hb⟩; refine ⟨_, rfl, ?_⟩; have HO356 := Aside0.mk (Kd.R_lower ho0 (below_size (bw HB))); refine mv2 hb BK1 BK2 ?_; clear BK1 BK2; intro BK1 BK2; replace HB := kw HB hb; (try clear hb); (try clear ho0); obtain ⟨Ao16, co16, eo16⟩ := Kd.R_slice HO356.out; subst eo16; obtain ⟨hcz17_0, hfz17_0⟩ := kc1 BK2))
  refine bodyPost_ret (results_ct rfl _ _ gb2 26 #[.slice Ao16 t354.length co16] (0, 0) _ rfl (bt BK2) Try.underlying26 rfl (by kernel_rfl)) rfl ?_
  exact ⟨_, eqR, by (with_reducible repeat (first | apply Kd.R_alloc | apply Kd.R_drewN | apply Kd.R_drew)); exact Kd.R_mono (Kd.R_far (p := ⟨gb2, 0, none⟩) (Kd.R_types HO356.out BK2.out (by decide)) (fun _ hk => hk.2) (.slice Ao16 t354.length co16)) (fun _ hk => trivial), bw HB⟩
 simp only [Option.some.injEq, Prod.mk.injEq] at H
 obtain ⟨rfl, rfl⟩ := H
 go_enter Try.func21, Try.ntmps21
 go_wp2_with (first | ((with_reducible refine gate_dst (N := 2) rfl ?_); (try (refine gate_guard (by rfl) ?_; dsimp only)); refine boxK HB (N := 2) (cs := #[.slice A0_0 l0_0.length c0_0]) (t := 26) (h := ?_); clear HB; intro gb1 hg w18 BK1 GW1 GE1 HB hb; clear hb hg) | ((with_reducible refine gate_dst (N := 4) rfl ?_); (try (refine gate_guard (by rfl) ?_; dsimp only)); refine boxK HB (N := 4) (cs := #[.slice none 0 0]) (t := 26) (h := ?_); clear HB; intro gb2 hg w19 BK2 GW2 GE2 HB hb; obtain ⟨NB1_2, NB2_1⟩ := nv1 hg BK1; replace BK1 := kb BK1 hb; clear hb hg; have hnb20 := up1 NB1_2; obtain ⟨hcz21_0, hfz21_0⟩ := kc1 BK1) | ((with_reducible refine gate_callee (f := 49) rfl ?_); refine goK (some 7) Try.func49 #[.agg #[.slice A0_0 l0_0.length c0_0]] ?_; (with_reducible refine (spec_pzGood.calls k _ _ l0_0 true _ ?side1 ?side2 A3.out).mono ?_); (case side1 => exact cb HR0_0 HB); (case side2 => exact HC0_0.out); rintro e w22 ⟨rfl, hb⟩; refine ⟨_, rfl, ?_⟩; refine mv2 hb BK1 BK2 ?_; clear BK1 BK2; intro BK1 BK2; replace HB := kw HB hb; (try clear hb); obtain ⟨hcz23_0, hfz23_0⟩ := kc1 BK1) | (go_at_call 36; (with_reducible refine (spec_l1In.calls a1 0 (wrap64 ((l0_0.length : Int) - 1)) false _ A5.out).mono ?_); rintro e w' ⟨rfl, ⟨nd, rfl⟩⟩; (try (rw [drewN_self w22]; generalize hq_ : World.drewN w22 _ = w22; have n0_ : Aside0 (w22.heap[gb1]? = some (.cells #[.slice A0_0 l0_0.length c0_0] 26 (0, 0))) := ⟨by rw [← hq_]; exact (bk BK1)⟩; have n1_ : Aside0 (w22.heap[gb2]? = some (.cells #[.slice none 0 0] 26 (0, 0))) := ⟨by rw [← hq_]; exact (bk BK2)⟩; have n2_ : Aside0 (Below w.heap.size w w22) := ⟨by rw [← hq_]; exact (bw HB)⟩; clear BK1 BK2 HB hq_; have BK1 := n0_; have BK2 := n1_; have HB := n2_; clear n0_ n1_ n2_)); obtain ⟨hcz24_0, hfz24_0⟩ := kc1 BK2))
 refine bodyPost_ret (results_ct rfl _ _ gb2 26 #[.slice none 0 0] (0, 0) _ rfl (bt BK2) Try.underlying26 rfl (by kernel_rfl)) rfl ?_
 exact ⟨_, eqR, by first | exact Kd.R_nil _ _ _ _ _ | exact Kd.N_nil _ _ _ _ _ | exact Kd.V_nil _ _ _ _ _ | exact Kd.Q_nil _ _ _ _ _ | exact Kd.S_nil _ _ _ _ _, bw HB⟩

/-! ### spec_DoesFit: function 22 -/
def spec_DoesFit.f (a0_0 : Int) (a0_1 : Int) (a0_2 : Int) (a1_0 : Int) (a1_1 : Int) : Option (Bool × Bool) := (spec_pzHidden.f a1_0 a1_1).bind fun t359 => (if t359 = true then ((spec_pzClue.f a0_0 a0_1 a0_2).bind fun t360 => (if t360 = true then ((spec_pzFits.f a0_0 a0_1 a0_2 a1_0 a1_1).bind fun t361 => (some (t361, true))) else (some (false, false)))) else (some (false, false)))
set_option maxHeartbeats 8000000 in
set_option maxRecDepth 100000 in
theorem spec_DoesFit.calls (a0_0 : Int) (a0_1 : Int) (a0_2 : Int) (a1_0 : Int) (a1_1 : Int) (r1 : Bool) (r2 : Bool) (w : World) (h : spec_DoesFit.f a0_0 a0_1 a0_2 a1_0 a1_1 = some (r1, r2)) :
    Calls Try.prog 22 #[.agg #[.int .i64 a0_0, .int .i64 a0_1, .int .i64 a0_2], .agg #[.int .i64 a1_0, .int .i64 a1_1]] w fun e w' => e = .returned (.tuple #[.bool r1, .bool r2]) ∧ Below w.heap.size w w' := by
 have hu28 := Try.underlying28
 have hu23 := Try.underlying23
 have HB := Aside0.mk (Below.refl w.heap.size w)
 have H : ((spec_pzHidden.f a1_0 a1_1).bind fun t359 => (if t359 = true then ((spec_pzClue.f a0_0 a0_1 a0_2).bind fun t360 => (if t360 = true then ((spec_pzFits.f a0_0 a0_1 a0_2 a1_0 a1_1).bind fun t361 => (some (t361, true))) else (some (false, false)))) else (some (false, false)))) = some (r1, r2) := h
 clear h
 replace H := bindS H; obtain ⟨t359, A3, H⟩ := H
 replace H := iteB H; rcases H with ⟨rfl, H⟩ | ⟨rfl, H⟩
 rotate_left
 ·
  simp only [Option.some.injEq, Prod.mk.injEq] at H
  obtain ⟨rfl, rfl⟩ := H
  go_enter Try.func22, Try.ntmps22
  go_wp2_with (first | ((with_reducible refine gate_dst (N := 2) rfl ?_); refine boxK HB (N := 2) (cs := #[.int .i64 a0_0, .int .i64 a0_1, .int .i64 a0_2]) (t := 28) (h := ?_); clear HB; intro gb1 hg w25 BK1 GW1 GE1 HB hb; clear hb hg) | ((with_reducible refine gate_dst (N := 3) rfl ?_); refine boxK HB (N := 3) (cs := #[.int .i64 a1_0, .int .i64 a1_1]) (t := 23) (h := ?_); clear HB; intro gb2 hg w26 BK2 GW2 GE2 HB hb; obtain ⟨NB1_2, NB2_1⟩ := nv1 hg BK1; replace BK1 := kb BK1 hb; clear hb hg; have hnb27 := up1 NB2_1; obtain ⟨hcz28_0, hcz28_1, hfz28_0, hfz28_1⟩ := kc2 BK2) | ((with_reducible refine gate_callee (f := 35) rfl ?_); refine goK (some 7) Try.func35 #[.agg #[.int .i64 a1_0, .int .i64 a1_1]] ?_; (with_reducible refine (spec_pzHidden.calls a1_0 a1_1 false _ A3.out).mono ?_); rintro e w29 ⟨rfl, hb⟩; refine ⟨_, rfl, ?_⟩; refine mv2 hb BK1 BK2 ?_; clear BK1 BK2; intro BK1 BK2; replace HB := kw HB hb; (try clear hb)))
  go_ret2
  exact ⟨eqR, bw HB⟩
 replace H := bindS H; obtain ⟨t360, A5, H⟩ := H
 replace H := iteB H; rcases H with ⟨rfl, H⟩ | ⟨rfl, H⟩
 ·
  replace H := bindS H; obtain ⟨t361, A7, H⟩ := H
  simp only [Option.some.injEq, Prod.mk.injEq] at H
  obtain ⟨rfl, rfl⟩ := H
  go_enter Try.func22, Try.ntmps22
  go_wp2_with (first | ((with_reducible refine gate_dst (N := 2) rfl ?_); refine boxK HB (N := 2) (cs := #[.int .i64 a0_0, .int .i64 a0_1, .int .i64 a0_2]) (t := 28) (h := ?_); clear HB; intro gb1 hg w8 BK1 GW1 GE1 HB hb; clear hb hg) | ((with_reducible refine gate_dst (N := 3) rfl ?_); refine boxK HB (N := 3) (cs := #[.int .i64 a1_0, .int .i64 a1_1]) (t := 23) (h := ?_); clear HB; intro gb2 hg w9 BK2 GW2 GE2 HB hb; obtain ⟨NB1_2, NB2_1⟩ := nv1 hg BK1; replace BK1 := kb BK1 hb; clear hb hg; have hnb10 := up1 NB2_1; obtain ⟨hcz11_0, hcz11_1, hfz11_0, hfz11_1⟩ := kc2 BK2) | ((with_reducible refine gate_callee (f := 35) rfl ?_); refine goK (some 7) Try.func35 #[.agg #[.int .i64 a1_0, .int .i64 a1_1]] ?_; (with_reducible refine (spec_pzHidden.calls a1_0 a1_1 true _ A3.out).mono ?_); rintro e w12 ⟨rfl, hb⟩; refine ⟨_, rfl, ?_⟩; refine mv2 hb BK1 BK2 ?_; clear BK1 BK2; intro BK1 BK2; replace HB := kw HB hb; (try clear hb); obtain ⟨hcz13_0, hcz13_1, hcz13_2, hfz13_0, hfz13_1, hfz13_2⟩ := kc3 BK1) | (go_at_call 52; (with_reducible refine (spec_pzClue.calls a0_0 a0_1 a0_2 true _ A5.out).mono ?_); rintro e w14 ⟨rfl, hb⟩; refine mv2 hb BK1 BK2 ?_; clear BK1 BK2; intro BK1 BK2; replace HB := kw HB hb; (try clear hb); obtain ⟨hcz15_0, hcz15_1, hcz15_2, hfz15_0, hfz15_1, hfz15_2⟩ := kc3 BK1; obtain ⟨hcz16_0, hcz16_1, hfz16_0, hfz16_1⟩ := kc2 BK2) | ((with_reducible refine gate_callee (f := 53) rfl ?_); refine goK (some 16) Try.func53 #[.agg #[.int .i64 a0_0, .int .i64 a0_1, .int .i64 a0_2], .agg #[.int .i64 a1_0, .int .i64 a1_1]] ?_; (with_reducible refine (spec_pzFits.calls a0_0 a0_1 a0_2 a1_0 a1_1 t361 _ A7.out).mono ?_); rintro e w17 ⟨rfl, hb⟩; refine ⟨_, rfl, ?_⟩; refine mv2 hb BK1 BK2 ?_; clear BK1 BK2; intro BK1 BK2; replace HB := kw HB hb; (try clear hb)))
  go_ret2
  exact ⟨eqR, bw HB⟩
 simp only [Option.some.injEq, Prod.mk.injEq] at H
 obtain ⟨rfl, rfl⟩ := H
 go_enter Try.func22, Try.ntmps22
 go_wp2_with (first | ((with_reducible refine gate_dst (N := 2) rfl ?_); refine boxK HB (N := 2) (cs := #[.int .i64 a0_0, .int .i64 a0_1, .int .i64 a0_2]) (t := 28) (h := ?_); clear HB; intro gb1 hg w18 BK1 GW1 GE1 HB hb; clear hb hg) | ((with_reducible refine gate_dst (N := 3) rfl ?_); refine boxK HB (N := 3) (cs := #[.int .i64 a1_0, .int .i64 a1_1]) (t := 23) (h := ?_); clear HB; intro gb2 hg w19 BK2 GW2 GE2 HB hb; obtain ⟨NB1_2, NB2_1⟩ := nv1 hg BK1; replace BK1 := kb BK1 hb; clear hb hg; have hnb20 := up1 NB2_1; obtain ⟨hcz21_0, hcz21_1, hfz21_0, hfz21_1⟩ := kc2 BK2) | ((with_reducible refine gate_callee (f := 35) rfl ?_); refine goK (some 7) Try.func35 #[.agg #[.int .i64 a1_0, .int .i64 a1_1]] ?_; (with_reducible refine (spec_pzHidden.calls a1_0 a1_1 true _ A3.out).mono ?_); rintro e w22 ⟨rfl, hb⟩; refine ⟨_, rfl, ?_⟩; refine mv2 hb BK1 BK2 ?_; clear BK1 BK2; intro BK1 BK2; replace HB := kw HB hb; (try clear hb); obtain ⟨hcz23_0, hcz23_1, hcz23_2, hfz23_0, hfz23_1, hfz23_2⟩ := kc3 BK1) | (go_at_call 52; (with_reducible refine (spec_pzClue.calls a0_0 a0_1 a0_2 false _ A5.out).mono ?_); rintro e w24 ⟨rfl, hb⟩; refine mv2 hb BK1 BK2 ?_; clear BK1 BK2; intro BK1 BK2; replace HB := kw HB hb; (try clear hb)))
 go_ret2
 exact ⟨eqR, bw HB⟩

/-! ### spec_IsClue: function 24 -/
def spec_IsClue.f (a0_0 : Int) (a0_1 : Int) (a0_2 : Int) : Option (Bool) := (spec_pzClue.f a0_0 a0_1 a0_2).bind fun t363 => (some t363)
set_option maxHeartbeats 8000000 in
set_option maxRecDepth 100000 in
theorem spec_IsClue.calls (a0_0 : Int) (a0_1 : Int) (a0_2 : Int) (r : Bool) (w : World) (h : spec_IsClue.f a0_0 a0_1 a0_2 = some r) :
    Calls Try.prog 24 #[.agg #[.int .i64 a0_0, .int .i64 a0_1, .int .i64 a0_2]] w fun e w' => e = .returned (.bool r) ∧ Below w.heap.size w w' := by
 have hu28 := Try.underlying28
 have HB := Aside0.mk (Below.refl w.heap.size w)
 have H : ((spec_pzClue.f a0_0 a0_1 a0_2).bind fun t363 => (some t363)) = some r := h
 clear h
 replace H := bindS H; obtain ⟨t363, A2, H⟩ := H
 obtain rfl := Option.some.inj H
 go_enter Try.func24, Try.ntmps24
 go_wp2_with (first | ((with_reducible refine gate_dst (N := 1) rfl ?_); refine boxK HB (N := 1) (cs := #[.int .i64 a0_0, .int .i64 a0_1, .int .i64 a0_2]) (t := 28) (h := ?_); clear HB; intro gb1 hg w3 BK1 GW1 GE1 HB hb; clear hb hg; obtain ⟨hcz4_0, hcz4_1, hcz4_2, hfz4_0, hfz4_1, hfz4_2⟩ := kc3 BK1) | ((with_reducible refine gate_callee (f := 52) rfl ?_); refine goK (some 4) Try.func52 #[.agg #[.int .i64 a0_0, .int .i64 a0_1, .int .i64 a0_2]] ?_; (with_reducible refine (spec_pzClue.calls a0_0 a0_1 a0_2 t363 _ A2.out).mono ?_); rintro e w5 ⟨rfl, hb⟩; refine ⟨_, rfl, ?_⟩; replace BK1 := kb BK1 hb; replace HB := kw HB hb; (try clear hb)))
 go_ret
 exact ⟨eqR, bw HB⟩

end Go.Proofs.Ytlpjooijkeadbaa.PH
