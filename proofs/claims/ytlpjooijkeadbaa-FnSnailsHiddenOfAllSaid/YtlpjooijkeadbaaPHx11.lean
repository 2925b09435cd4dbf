-- Written by a program of our own (wip/tools/xprint.py) for this claim; Lean checks it.
import Derived.Test.YtlpjooijkeadbaaPHx0
import Derived.Test.YtlpjooijkeadbaaPHx3
import Derived.Test.YtlpjooijkeadbaaPHx4
import Derived.Test.YtlpjooijkeadbaaPHx5
import Derived.Test.YtlpjooijkeadbaaPHx7
import Derived.Test.YtlpjooijkeadbaaPHx8
import Derived.Test.YtlpjooijkeadbaaPHx9
import Derived.Test.YtlpjooijkeadbaaPHx10
import Derived.Test.YtlpjooijkeadbaaKC
import Derived.Test.YtlpjooijkeadbaaPHx11p1
namespace Go.Proofs.Ytlpjooijkeadbaa.PH
open Go.RowKit Go.Proofs.YtlpjooijkeadbaaK Go.Proofs.YtlpjooijkeadbaaW.PrintWords Go.Proofs.YtlpjooijkeadbaaW.PrintLast Go.Proofs.YtlpjooijkeadbaaW.PrintMore
attribute [local go_sem] max2_int min2_int max_two min_two max_three min_three max_four min_four   -- for this text's walks alone
set_option linter.unusedVariables false
set_option linter.unusedSimpArgs false

attribute [local go_sem high] eqA28
set_option maxHeartbeats 8000000 in
set_option maxRecDepth 100000 in
theorem laws_FnSnailsHiddenOfAll.calls (k : Nat) (a0_0 : Int) (a0_1 : Int) (a1 : Int) (a2 : Int) (A3_0 : Option Addr) (c3_0 : Nat) (l3_0 : List (S28)) (A4_0 : Option Addr) (c4_0 : Nat) (l4_0 : List (S28)) (a5_0 : Int) (a5_1 : Int) (a5_2 : Int) (A6_0 : Option Addr) (c6_0 : Nat) (l6_0 : List (S28)) (a7 : Int) (a8_0 : Int) (a8_1 : Int) (a8_2 : Int) (a9_0 : Int) (a9_1 : Int) (a10_0 : Int) (a10_1 : Int) (a10_2 : Int) (r : Bool) (w : World) (hr3_0 : Kd.C k28 w A3_0 l3_0.length l3_0) (hc3_0 : l3_0.length ≤ c3_0) (hr4_0 : Kd.C k28 w A4_0 l4_0.length l4_0) (hc4_0 : l4_0.length ≤ c4_0) (hr6_0 : Kd.C k28 w A6_0 l6_0.length l6_0) (hc6_0 : l6_0.length ≤ c6_0) (h : laws_FnSnailsHiddenOfAll.f k a0_0 a0_1 a1 a2 l3_0 l4_0 a5_0 a5_1 a5_2 l6_0 a7 a8_0 a8_1 a8_2 a9_0 a9_1 a10_0 a10_1 a10_2 = some r) :
    Calls Try.prog 3 #[.agg #[.int .i64 a0_0, .int .i64 a0_1], .int .i64 a1, .int .i64 a2, .agg #[.slice A3_0 l3_0.length c3_0], .agg #[.slice A4_0 l4_0.length c4_0], .agg #[.int .i64 a5_0, .int .i64 a5_1, .int .i64 a5_2], .agg #[.slice A6_0 l6_0.length c6_0], .int .i64 a7, .agg #[.int .i64 a8_0, .int .i64 a8_1, .int .i64 a8_2], .agg #[.int .i64 a9_0, .int .i64 a9_1], .agg #[.int .i64 a10_0, .int .i64 a10_1, .int .i64 a10_2]] w fun e w' => e = .returned (.bool r) ∧ Below w.heap.size w w' := by
 have hu23 := Try.underlying23
 have hu26 := Try.underlying26
 have hu28 := Try.underlying28
 have HR3_0 := Aside0.mk hr3_0
 have HC3_0 := Aside0.mk hc3_0
 clear hr3_0 hc3_0
 have HR4_0 := Aside0.mk hr4_0
 have HC4_0 := Aside0.mk hc4_0
 clear hr4_0 hc4_0
 have HR6_0 := Aside0.mk hr6_0
 have HC6_0 := Aside0.mk hc6_0
 clear hr6_0 hc6_0
 have HB := Aside0.mk (Below.refl w.heap.size w)
 have H : ((impl_MakePuzzle.f k a0_0 a0_1 a1 a2).bind fun bt372 => ((spec_MakePuzzle.f k a0_0 a0_1 a1 a2).bind fun bt377 => (if (bt372.2 != bt377.2) = true then (laws_FnSnailsHiddenOfAll.j0 k a1 a7 bt372.2 true a0_0 a0_1 l3_0 l4_0 a5_0 a5_1 a5_2 l6_0 a8_0 a8_1 a8_2 a9_0 a9_1 a10_0 a10_1 a10_2 bt372.1) else ((laws_qClues.f k bt372.1 bt377.1).bind fun t382 => (laws_FnSnailsHiddenOfAll.j0 k a1 a7 bt372.2 (!t382) a0_0 a0_1 l3_0 l4_0 a5_0 a5_1 a5_2 l6_0 a8_0 a8_1 a8_2 a9_0 a9_1 a10_0 a10_1 a10_2 bt372.1))))) = some r := h
 clear h
 replace H := bindS H; obtain ⟨⟨t372, t375⟩, A12, H⟩ := H
 replace H := bindS H; obtain ⟨⟨t377, t380⟩, A13, H⟩ := H
 have HC14 := Aside0.mk H
 clear H
 go_enter Try.func3, Try.ntmps3
 go_upto_region 3 with (first | ((with_reducible refine gate_dst (N := 11) rfl ?_); (try (refine gate_guard (by rfl) ?_; dsimp only)); refine boxK HB (N := 11) (cs := #[.int .i64 a0_0, .int .i64 a0_1]) (t := 23) (h := ?_); clear HB; intro gb1 hg w15 BK1 GW1 GE1 HB hb; clear hb hg) | ((with_reducible refine gate_dst (N := 14) rfl ?_); (try (refine gate_guard (by rfl) ?_; dsimp only)); refine boxK HB (N := 14) (cs := #[.slice A3_0 l3_0.length c3_0]) (t := 26) (h := ?_); clear HB; intro gb2 hg w16 BK2 GW2 GE2 HB hb; obtain ⟨NB1_2, NB2_1⟩ := nv1 hg BK1; replace BK1 := kb BK1 hb; clear hb hg) | ((with_reducible refine gate_dst (N := 15) rfl ?_); (try (refine gate_guard (by rfl) ?_; dsimp only)); refine boxK HB (N := 15) (cs := #[.slice A4_0 l4_0.length c4_0]) (t := 26) (h := ?_); clear HB; intro gb3 hg w17 BK3 GW3 GE3 HB hb; obtain ⟨NB1_3, NB3_1, NB2_3, NB3_2⟩ := nv2 hg BK1 BK2; refine mv2 hb BK1 BK2 ?_; clear BK1 BK2; intro BK1 BK2; clear hb hg) | ((with_reducible refine gate_dst (N := 16) rfl ?_); (try (refine gate_guard (by rfl) ?_; dsimp only)); refine boxK HB (N := 16) (cs := #[.int .i64 a5_0, .int .i64 a5_1, .int .i64 a5_2]) (t := 28) (h := ?_); clear HB; intro gb4 hg w18 BK4 GW4 GE4 HB hb; obtain ⟨NB1_4, NB4_1, NB2_4, NB4_2, NB3_4, NB4_3⟩ := nv3 hg BK1 BK2 BK3; refine mv3 hb BK1 BK2 BK3 ?_; clear BK1 BK2 BK3; intro BK1 BK2 BK3; clear hb hg) | ((with_reducible refine gate_dst (N := 17) rfl ?_); (try (refine gate_guard (by rfl) ?_; dsimp only)); refine boxK HB (N := 17) (cs := #[.slice A6_0 l6_0.length c6_0]) (t := 26) (h := ?_); clear HB; intro gb5 hg w19 BK5 GW5 GE5 HB hb; obtain ⟨NB1_5, NB5_1, NB2_5, NB5_2, NB3_5, NB5_3, NB4_5, NB5_4⟩ := nv4 hg BK1 BK2 BK3 BK4; refine mv4 hb BK1 BK2 BK3 BK4 ?_; clear BK1 BK2 BK3 BK4; intro BK1 BK2 BK3 BK4; clear hb hg) | ((with_reducible refine gate_dst (N := 19) rfl ?_); (try (refine gate_guard (by rfl) ?_; dsimp only)); refine boxK HB (N := 19) (cs := #[.int .i64 a8_0, .int .i64 a8_1, .int .i64 a8_2]) (t := 28) (h := ?_); clear HB; intro gb6 hg w20 BK6 GW6 GE6 HB hb; obtain ⟨NB1_6, NB6_1, NB2_6, NB6_2, NB3_6, NB6_3, NB4_6, NB6_4, NB5_6, NB6_5⟩ := nv5 hg BK1 BK2 BK3 BK4 BK5; refine mv5 hb BK1 BK2 BK3 BK4 BK5 ?_; clear BK1 BK2 BK3 BK4 BK5; intro BK1 BK2 BK3 BK4 BK5; clear hb hg) | ((with_reducible refine gate_dst (N := 20) rfl ?_); (try (refine gate_guard (by rfl) ?_; dsimp only)); refine boxK HB (N := 20) (cs := #[.int .i64 a9_0, .int .i64 a9_1]) (t := 23) (h := ?_); clear HB; intro gb7 hg w21 BK7 GW7 GE7 HB hb; obtain ⟨NB1_7, NB7_1, NB2_7, NB7_2, NB3_7, NB7_3, NB4_7, NB7_4, NB5_7, NB7_5, NB6_7, NB7_6⟩ := nv6 hg BK1 BK2 BK3 BK4 BK5 BK6; refine mv6 hb BK1 BK2 BK3 BK4 BK5 BK6 ?_; clear BK1 BK2 BK3 BK4 BK5 BK6; intro BK1 BK2 BK3 BK4 BK5 BK6; clear hb hg) | ((with_reducible refine gate_dst (N := 21) rfl ?_); (try (refine gate_guard (by rfl) ?_; dsimp only)); refine boxK HB (N := 21) (cs := #[.int .i64 a10_0, .int .i64 a10_1, .int .i64 a10_2]) (t := 28) (h := ?_); clear HB; intro gb8 hg w22 BK8 GW8 GE8 HB hb; obtain ⟨NB1_8, NB8_1, NB2_8, NB8_2, NB3_8, NB8_3, NB4_8, NB8_4, NB5_8, NB8_5, NB6_8, NB8_6, NB7_8, NB8_7⟩ := nv7 hg BK1 BK2 BK3 BK4 BK5 BK6 BK7; refine mv7 hb BK1 BK2 BK3 BK4 BK5 BK6 BK7 ?_; clear BK1 BK2 BK3 BK4 BK5 BK6 BK7; intro BK1 BK2 BK3 BK4 BK5 BK6 BK7; clear hb hg; have hnb23 := up7 NB1_2 NB1_3 NB1_4 NB1_5 NB1_6 NB1_7 NB1_8; obtain ⟨hcz30_0, hcz30_1, hfz30_0, hfz30_1⟩ := kc2 BK1) | ((with_reducible refine gate_callee (f := 5) rfl ?_); refine goesL_ (some 73) rfl rfl Try.func5 (by kernel_rfl) rfl #[.agg #[.int .i64 a0_0, .int .i64 a0_1], .int .i64 a1, .int .i64 a2] rfl argR ?_; (with_reducible refine (impl_MakePuzzle.calls k a0_0 a0_1 a1 a2 t372 t375 _ A12.out).mono ?_); rintro e w31 ⟨v373, rfl, ho0, hb⟩; refine ⟨_, rfl, ?_⟩; have HO374 := Aside0.mk (Kd.R_lower (Kd.R_newB (Kd.R_newB (Kd.R_newB ho0 (bk BK4)) (bk BK6)) (bk BK8)) (below_size (bw HB))); refine mv8 hb BK1 BK2 BK3 BK4 BK5 BK6 BK7 BK8 ?_; clear BK1 BK2 BK3 BK4 BK5 BK6 BK7 BK8; intro BK1 BK2 BK3 BK4 BK5 BK6 BK7 BK8; replace HB := kw HB hb; (try clear hb); (try clear hk); (try clear ho0)) | ((with_reducible refine gate_dst (N := 23) rfl ?_); (try (refine gate_guard (by rfl) ?_; dsimp only)); refine boxK HB (N := 23) (cs := #[.slice none 0 0]) (t := 26) (h := ?_); clear HB; intro gb9 hg w32 BK9 GW9 GE9 HB hb; replace HO374 := ko HO374 hb; obtain ⟨NB1_9, NB9_1, NB2_9, NB9_2, NB3_9, NB9_3, NB4_9, NB9_4, NB5_9, NB9_5, NB6_9, NB9_6, NB7_9, NB9_7, NB8_9, NB9_8⟩ := nv8 hg BK1 BK2 BK3 BK4 BK5 BK6 BK7 BK8; refine mv8 hb BK1 BK2 BK3 BK4 BK5 BK6 BK7 BK8 ?_; clear BK1 BK2 BK3 BK4 BK5 BK6 BK7 BK8; intro BK1 BK2 BK3 BK4 BK5 BK6 BK7 BK8; clear hb hg; obtain ⟨Ao33, co33, eo33⟩ := Kd.R_slice HO374.out; subst eo33; have hnb34 := up8 NB9_1 NB9_2 NB9_3 NB9_4 NB9_5 NB9_6 NB9_7 NB9_8; obtain ⟨hcz42_0, hfz42_0⟩ := kc1 BK9; obtain ⟨hcz43_0, hcz43_1, hfz43_0, hfz43_1⟩ := kc2 BK1) | ((with_reducible refine gate_callee (f := 6) rfl ?_); refine goesL_ (some 80) rfl rfl Try.func6 (by kernel_rfl) rfl #[.agg #[.int .i64 a0_0, .int .i64 a0_1], .int .i64 a1, .int .i64 a2] rfl argR ?_; (with_reducible refine (spec_MakePuzzle.calls k a0_0 a0_1 a1 a2 t377 t380 _ A13.out).mono ?_); rintro e w44 ⟨v378, rfl, ho0, hb⟩; refine ⟨_, rfl, ?_⟩; have HO379 := Aside0.mk (Kd.R_lower (Kd.R_newB (Kd.R_newB (Kd.R_newB (Kd.R_new' ho0 (Kd.R_lt (by (with_reducible repeat (first | apply Kd.R_alloc | apply Kd.R_drewN | apply Kd.R_drew)); exact (Kd.R_mono (Kd.R_far (p := ⟨gb9, 0, none⟩) (Kd.R_types HO374.out BK9.out (by decide)) (fun _ hk => hk.2) (.slice Ao33 t372.length co33)) (fun _ h_ => h_.1))))) (bf BK4 NB4_9)) (bf BK6 NB6_9)) (bf BK8 NB8_9)) (below_size (bw HB))); replace HO374 := Aside0.mk (Kd.R_elder' (by (with_reducible repeat (first | apply Kd.R_alloc | apply Kd.R_drewN | apply Kd.R_drew)); exact (Kd.R_mono (Kd.R_far (p := ⟨gb9, 0, none⟩) (Kd.R_types HO374.out BK9.out (by decide)) (fun _ hk => hk.2) (.slice Ao33 t372.length co33)) (fun _ h_ => h_.1))) (Kd.R_base ho0) hb); replace BK1 := Aside0.mk (blk_below (bf BK1 NB1_9) hb); replace BK2 := Aside0.mk (blk_below (bf BK2 NB2_9) hb); replace BK3 := Aside0.mk (blk_below (bf BK3 NB3_9) hb); replace BK4 := Aside0.mk (blk_below (bf BK4 NB4_9) hb); replace BK5 := Aside0.mk (blk_below (bf BK5 NB5_9) hb); replace BK6 := Aside0.mk (blk_below (bf BK6 NB6_9) hb); replace BK7 := Aside0.mk (blk_below (bf BK7 NB7_9) hb); replace BK8 := Aside0.mk (blk_below (bf BK8 NB8_9) hb); replace BK9 := Aside0.mk (blk_below (g := gb9) (o := .cells #[.slice Ao33 t372.length co33] 26 (0, 0)) (by (with_reducible repeat (first | refine blk_drewN ?_ _ | refine blk_drew ?_ | refine blk_alloc ?_ _)); refine blk_put (cs := #[.slice none 0 0]) ?_ 0 _ rfl; (with_reducible repeat (first | refine blk_drewN ?_ _ | refine blk_drew ?_ | refine blk_alloc ?_ _)); exact BK9.out) hb); replace HB := kw HB hb; (try clear hb); (try clear hk); (try clear ho0)) | ((with_reducible refine gate_dst (N := 25) rfl ?_); (try (refine gate_guard (by rfl) ?_; dsimp only)); refine boxK HB (N := 25) (cs := #[.slice none 0 0]) (t := 26) (h := ?_); clear HB; intro gb10 hg w45 BK10 GW10 GE10 HB hb; replace HO374 := ko HO374 hb; replace HO379 := ko HO379 hb; obtain ⟨NB1_10, NB10_1, NB2_10, NB10_2, NB3_10, NB10_3, NB4_10, NB10_4, NB5_10, NB10_5, NB6_10, NB10_6, NB7_10, NB10_7, NB8_10, NB10_8⟩ := nv8 hg BK1 BK2 BK3 BK4 BK5 BK6 BK7 BK8; refine mv8 hb BK1 BK2 BK3 BK4 BK5 BK6 BK7 BK8 ?_; clear BK1 BK2 BK3 BK4 BK5 BK6 BK7 BK8; intro BK1 BK2 BK3 BK4 BK5 BK6 BK7 BK8; obtain ⟨NB9_10, NB10_9⟩ := nv1 hg BK9; replace BK9 := kb BK9 hb; clear hb hg; obtain ⟨Ao46, co46, eo46⟩ := Kd.R_slice HO379.out; subst eo46; have hnb47 := up8 NB10_1 NB10_2 NB10_3 NB10_4 NB10_5 NB10_6 NB10_7 NB10_8; have hnb55 := up1 NB10_9; obtain ⟨hcz56_0, hfz56_0⟩ := kc1 BK10))
 (try simp only [Act.put, List.setIfInBounds_toArray, List.set_cons_zero, List.set_cons_succ])
 go_cut [93, 69, 70, 71, 72, 73, 74, 75, 76, 77, 78, 79, 80, 81, 82] from 1 to 0 (fun v93 _ _ _ _ _ _ _ _ _ _ _ _ _ _ wc => ∃ (kq : Nat) (x93_13 : Bool), v93 = .bool x93_13 ∧ Aside0 (laws_FnSnailsHiddenOfAll.j0 kq a1 a7 t375 x93_13 a0_0 a0_1 l3_0 l4_0 a5_0 a5_1 a5_2 l6_0 a8_0 a8_1 a8_2 a9_0 a9_1 a10_0 a10_1 a10_2 t372 = some r) ∧ Aside0 (kq ≤ k) ∧ Aside0 (Kd.R k28 28 wc w.heap.size (fun k_ => k_ ≠ gb4 ∧ k_ ≠ gb6 ∧ k_ ≠ gb8) (.slice Ao33 t372.length co33) t372) ∧ Aside0 (wc.heap[gb1]? = some (.cells #[.int .i64 a0_0, .int .i64 a0_1] 23 (0, 0))) ∧ Aside0 (wc.heap[gb2]? = some (.cells #[(.slice A3_0 l3_0.length c3_0)] 26 (0, 0))) ∧ Aside0 (wc.heap[gb3]? = some (.cells #[(.slice A4_0 l4_0.length c4_0)] 26 (0, 0))) ∧ Aside0 (wc.heap[gb4]? = some (.cells #[.int .i64 a5_0, .int .i64 a5_1, .int .i64 a5_2] 28 (0, 0))) ∧ Aside0 (wc.heap[gb5]? = some (.cells #[(.slice A6_0 l6_0.length c6_0)] 26 (0, 0))) ∧ Aside0 (wc.heap[gb6]? = some (.cells #[.int .i64 a8_0, .int .i64 a8_1, .int .i64 a8_2] 28 (0, 0))) ∧ Aside0 (wc.heap[gb7]? = some (.cells #[.int .i64 a9_0, .int .i64 a9_1] 23 (0, 0))) ∧ Aside0 (wc.heap[gb8]? = some (.cells #[.int .i64 a10_0, .int .i64 a10_1, .int .i64 a10_2] 28 (0, 0))) ∧ Aside0 (wc.heap[gb9]? = some (.cells #[(.slice Ao33 t372.length co33)] 26 (0, 0))) ∧ Aside0 (Below w.heap.size w wc))
 case first =>
  have H := HC14.out
  clear HC14
  replace H := iteC H; rcases H with ⟨c57, H⟩ | ⟨c57, H⟩
  ·
   have c57b0 : (t375 != t380) = true := c57
   (try (have c57b1 : decide (t375 = t380) = false := by simpa using c57))
   (try (have c57b2 : (t375 == t380) = false := by simpa using c57))
   (try (have c57b3 : ¬ (t375 = t380) := by simpa using c57))
   clear c57
   (first | rw [c57b0] | (simp only [i64_w, i32_w]; rw [c57b0]) | skip)
   have H' := Aside0.mk H
   clear H
   go_wp2
   go_meet
   case rel => exact ⟨_, (true), (by first | rfl | (simp; done) | (simp [*]; done)), H', ⟨by first | omega | exact Nat.le_refl _⟩, ⟨by (with_reducible repeat (first | apply Kd.R_alloc | apply Kd.R_drewN | apply Kd.R_drew)); exact Kd.R_mono (Kd.R_far (p := ⟨gb10, 0, none⟩) (Kd.R_types HO374.out BK10.out (by decide)) (fun _ hk => hk.2) (.slice Ao46 t377.length co46)) (fun _ hk => ⟨hk.1.1.1.1.2, ⟨hk.1.1.1.2, hk.1.1.2⟩⟩)⟩, ⟨bf BK1 NB1_10⟩, ⟨bf BK2 NB2_10⟩, ⟨bf BK3 NB3_10⟩, ⟨bf BK4 NB4_10⟩, ⟨bf BK5 NB5_10⟩, ⟨bf BK6 NB6_10⟩, ⟨bf BK7 NB7_10⟩, ⟨bf BK8 NB8_10⟩, ⟨bf BK9 NB9_10⟩, ⟨bw HB⟩⟩
  have c57b0 : (t375 != t380) = false := by simpa using c57
  (try (have c57b1 : decide (t375 = t380) = true := by simpa using c57))
  (try (have c57b2 : (t375 == t380) = true := by simpa using c57))
  clear c57
  (first | rw [c57b0] | (simp only [i64_w, i32_w]; rw [c57b0]) | skip)
  replace H := bindS H; obtain ⟨t382, A58, H⟩ := H
  have H' := Aside0.mk H
  clear H
  have hnb59 := up8 NB9_1 NB9_2 NB9_3 NB9_4 NB9_5 NB9_6 NB9_7 NB9_8
  have hnb67 := up1 NB9_10
  obtain ⟨hcz68_0, hfz68_0⟩ := kc1 BK9
  have hnb69 := up8 NB10_1 NB10_2 NB10_3 NB10_4 NB10_5 NB10_6 NB10_7 NB10_8
  obtain ⟨hcz77_0, hfz77_0⟩ := kc1 BK10
  go_wp2_with (first | (go_at_call 7; (with_reducible refine (laws_qClues.calls k _ _ t372 _ _ t377 t382 _ ?side1 ?side2 ?side3 ?side4 A58.out).mono ?_); (case side1 => refine (Kd.R_reads' (e := 28) (base := w.heap.size) (ok := fun k_ => ((((True ∧ k_ ≠ gb4) ∧ k_ ≠ gb6) ∧ k_ ≠ gb8) ∧ some k_ ≠ (.slice Ao46 t377.length co46 : Value).ownBlock)) (n := t372.length) (c := co33) ?_).2.2; exact (by (with_reducible repeat (first | apply Kd.R_alloc | apply Kd.R_drewN | apply Kd.R_drew)); exact (Kd.R_mono (Kd.R_far (p := ⟨gb10, 0, none⟩) (Kd.R_types HO374.out BK10.out (by decide)) (fun _ hk => hk.2) (.slice Ao46 t377.length co46)) (fun _ h_ => h_.1)))); (case side2 => exact rl HO374); (case side3 => refine (Kd.R_reads' (e := 28) (base := w.heap.size) (ok := fun k_ => ((((True ∧ some k_ ≠ (.slice Ao33 t372.length co33 : Value).ownBlock) ∧ k_ ≠ gb4) ∧ k_ ≠ gb6) ∧ k_ ≠ gb8)) (n := t377.length) (c := co46) ?_).2.2; exact (by (with_reducible repeat (first | apply Kd.R_alloc | apply Kd.R_drewN | apply Kd.R_drew)); exact (Kd.R_mono (Kd.R_far (p := ⟨gb10, 0, none⟩) (Kd.R_types HO379.out BK10.out (by decide)) (fun _ hk => hk.2) (.slice Ao46 t377.length co46)) (fun _ h_ => h_.1)))); (case side4 => exact rl HO379); rintro e w' ⟨rfl, ⟨nd, rfl⟩⟩))
  go_meet
  case rel => exact ⟨_, (!t382), (by first | rfl | (simp; done) | (simp [*]; done)), H', ⟨by first | omega | exact Nat.le_refl _⟩, ⟨by (with_reducible repeat (first | apply Kd.R_alloc | apply Kd.R_drewN | apply Kd.R_drew)); exact Kd.R_mono (Kd.R_far (p := ⟨gb10, 0, none⟩) (Kd.R_types HO374.out BK10.out (by decide)) (fun _ hk => hk.2) (.slice Ao46 t377.length co46)) (fun _ hk => ⟨hk.1.1.1.1.2, ⟨hk.1.1.1.2, hk.1.1.2⟩⟩)⟩, ⟨bf BK1 NB1_10⟩, ⟨bf BK2 NB2_10⟩, ⟨bf BK3 NB3_10⟩, ⟨bf BK4 NB4_10⟩, ⟨bf BK5 NB5_10⟩, ⟨bf BK6 NB6_10⟩, ⟨bf BK7 NB7_10⟩, ⟨bf BK8 NB8_10⟩, ⟨bf BK9 NB9_10⟩, ⟨bw HB⟩⟩
 case rest =>
  clear HC14
  try clear hcz30_0
  try clear hcz30_1
  try clear hcz42_0
  try clear hcz43_0
  try clear hcz43_1
  try clear hcz56_0
  try clear hfz30_0
  try clear hfz30_1
  try clear hfz42_0
  try clear hfz43_0
  try clear hfz43_1
  try clear hfz56_0
  obtain ⟨kq, x93_13, rfl, HA, HJ13, HO_377000, BK1, BK2, BK3, BK4, BK5, BK6, BK7, BK8, BK9, HB⟩ := hcut
  exact laws_FnSnailsHiddenOfAll.r1 k a0_0 a0_1 a1 a2 A3_0 c3_0 l3_0 A4_0 c4_0 l4_0 a5_0 a5_1 a5_2 A6_0 c6_0 l6_0 a7 a8_0 a8_1 a8_2 a9_0 a9_1 a10_0 a10_1 a10_2 r w HR3_0 HC3_0 HR4_0 HC4_0 HR6_0 HC6_0 t372 t375 t380 _ rfl gb1 gb2 NB1_2 gb3 NB1_3 NB2_3 gb4 NB1_4 NB2_4 NB3_4 gb5 NB1_5 NB2_5 NB3_5 NB4_5 gb6 NB1_6 NB2_6 NB3_6 NB4_6 NB5_6 gb7 NB1_7 NB2_7 NB3_7 NB4_7 NB5_7 NB6_7 gb8 NB1_8 NB2_8 NB3_8 NB4_8 NB5_8 NB6_8 NB7_8 gb9 NB1_9 NB9_1 NB9_2 NB9_3 NB9_4 NB9_5 NB9_6 NB9_7 NB9_8 Ao33 co33 gb10 _ (by assumption) _ (by assumption) wc u69 u70 u71 u72 u73 u74 u75 u76 u77 u78 u79 u80 u81 u82 u83 u84 u85 u86 u87 u88 u89 u90 u91 u92 kq x93_13 HA HJ13 HO_377000 BK1 BK2 BK3 BK4 BK5 BK6 BK7 BK8 BK9 HB

end Go.Proofs.Ytlpjooijkeadbaa.PH
