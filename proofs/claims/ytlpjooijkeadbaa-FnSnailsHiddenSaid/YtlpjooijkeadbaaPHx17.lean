-- Written by a program of our own (wip/tools/xprint.py) for this claim; Lean checks it.
import Derived.Test.YtlpjooijkeadbaaPHx0
import Derived.Test.YtlpjooijkeadbaaPHx3
import Derived.Test.YtlpjooijkeadbaaPHx4
import Derived.Test.YtlpjooijkeadbaaPHx5
import Derived.Test.YtlpjooijkeadbaaPHx7
import Derived.Test.YtlpjooijkeadbaaPHx8
import Derived.Test.YtlpjooijkeadbaaPHx9
import Derived.Test.YtlpjooijkeadbaaPHx12
import Derived.Test.YtlpjooijkeadbaaPHx14
import Derived.Test.YtlpjooijkeadbaaPHx15
import Derived.Test.YtlpjooijkeadbaaPHx16
import Derived.Test.YtlpjooijkeadbaaKC
import Derived.Test.YtlpjooijkeadbaaPHx17p1
namespace Go.Proofs.Ytlpjooijkeadbaa.PH
open Go.RowKit Go.Proofs.YtlpjooijkeadbaaK Go.Proofs.YtlpjooijkeadbaaW.PrintWords Go.Proofs.YtlpjooijkeadbaaW.PrintLast Go.Proofs.YtlpjooijkeadbaaW.PrintMore
attribute [local go_sem] max2_int min2_int max_two min_two max_three min_three max_four min_four   -- for this text's walks alone
set_option linter.unusedVariables false
set_option linter.unusedSimpArgs false

attribute [local go_sem high] eqA28
set_option maxHeartbeats 8000000 in
set_option maxRecDepth 100000 in
theorem laws_FnSnailsHidden.calls (k : Nat) (A0 : Option Addr) (c0 : Nat) (l0 : List Int) (A1 : Option Addr) (c1 : Nat) (l1 : List Int) (r : Bool) (w : World) (hr0 : Kd.C (Kd.int .u8) w A0 l0.length l0) (hc0 : l0.length ≤ c0) (hr1 : Kd.C (Kd.int .u8) w A1 l1.length l1) (hc1 : l1.length ≤ c1) (h : laws_FnSnailsHidden.f k l0 l1 = some r) :
    Calls Try.prog 4 #[.slice A0 l0.length c0, .slice A1 l1.length c1] w fun e w' => e = .returned (.bool r) ∧ Below w.heap.size w w' := by
 have hu23 := Try.underlying23
 have hu26 := Try.underlying26
 have hu28 := Try.underlying28
 have HR0 := Aside0.mk hr0
 have HC0 := Aside0.mk hc0
 clear hr0 hc0
 have HR1 := Aside0.mk hr1
 have HC1 := Aside0.mk hc1
 clear hr1 hc1
 have HB := Aside0.mk (Below.refl w.heap.size w)
 have H : ((laws_big.f l0 l1).bind fun t759 => (if t759 = true then (some true) else ((spec_DrawMakePuzzle.f l0).bind fun bt760 => ((impl_MakePuzzle.f k bt760.1 bt760.2.1 bt760.2.2.1 bt760.2.2.2).bind fun bt765 => ((spec_MakePuzzle.f k bt760.1 bt760.2.1 bt760.2.2.1 bt760.2.2.2).bind fun bt770 => (if (bt765.2 != bt770.2) = true then (laws_FnSnailsHidden.j0 k l1 bt760.2.2.1 bt765.2 true bt760.1 bt760.2.1 bt765.1) else ((laws_qClues.f k bt765.1 bt770.1).bind fun t775 => (laws_FnSnailsHidden.j0 k l1 bt760.2.2.1 bt765.2 (!t775) bt760.1 bt760.2.1 bt765.1)))))))) = some r := h
 clear h
 replace H := bindS H; obtain ⟨t759, A3, H⟩ := H
 replace H := iteB H; rcases H with ⟨rfl, H⟩ | ⟨rfl, H⟩
 ·
  obtain rfl := Option.some.inj H
  go_enter Try.func4, Try.ntmps4
  go_wp2_with (first | ((with_reducible refine gate_callee (f := 25) rfl ?_); refine goK (some 64) Try.func25 #[.slice A0 l0.length c0, .slice A1 l1.length c1] ?_; (with_reducible refine (laws_big.calls _ _ l0 _ _ l1 true _ ?side1 ?side2 ?side3 ?side4 A3.out).mono ?_); (case side1 => repeat (first | exact HR0.out | (with_reducible refine Kd.C_alloc ?_ _) | (with_reducible refine Kd.C_drewN ?_ _) | (with_reducible refine Kd.C_drew ?_))); (case side2 => exact HC0.out); (case side3 => repeat (first | exact HR1.out | (with_reducible refine Kd.C_alloc ?_ _) | (with_reducible refine Kd.C_drewN ?_ _) | (with_reducible refine Kd.C_drew ?_))); (case side4 => exact HC1.out); rintro e w' ⟨rfl, ⟨nd, rfl⟩⟩; refine ⟨_, rfl, ?_⟩))
  go_ret
  exact ⟨eqR, bw HB⟩
 replace H := bindS H; obtain ⟨⟨t760, t761, t762, t763⟩, A5, H⟩ := H
 replace H := bindS H; obtain ⟨⟨t765, t768⟩, A6, H⟩ := H
 replace H := bindS H; obtain ⟨⟨t770, t773⟩, A7, H⟩ := H
 have HC8 := Aside0.mk H
 clear H
 go_enter Try.func4, Try.ntmps4
 go_upto_region 6 with (first | ((with_reducible refine gate_callee (f := 25) rfl ?_); refine goK (some 64) Try.func25 #[.slice A0 l0.length c0, .slice A1 l1.length c1] ?_; (with_reducible refine (laws_big.calls _ _ l0 _ _ l1 false _ ?side1 ?side2 ?side3 ?side4 A3.out).mono ?_); (case side1 => repeat (first | exact HR0.out | (with_reducible refine Kd.C_alloc ?_ _) | (with_reducible refine Kd.C_drewN ?_ _) | (with_reducible refine Kd.C_drew ?_))); (case side2 => exact HC0.out); (case side3 => repeat (first | exact HR1.out | (with_reducible refine Kd.C_alloc ?_ _) | (with_reducible refine Kd.C_drewN ?_ _) | (with_reducible refine Kd.C_drew ?_))); (case side4 => exact HC1.out); rintro e w' ⟨rfl, ⟨nd, rfl⟩⟩; refine ⟨_, rfl, ?_⟩) | ((with_reducible refine gate_callee (f := 26) rfl ?_); refine goK (some 67) Try.func26 #[.slice A0 l0.length c0] ?_; (with_reducible refine (spec_DrawMakePuzzle.calls _ _ l0 t760 t761 t762 t763 _ ?side1 ?side2 A5.out).mono ?_); (case side1 => repeat (first | exact HR0.out | (with_reducible refine Kd.C_alloc ?_ _) | (with_reducible refine Kd.C_drewN ?_ _) | (with_reducible refine Kd.C_drew ?_))); (case side2 => exact HC0.out); rintro e w9 ⟨rfl, hb⟩; refine ⟨_, rfl, ?_⟩; replace HB := kw HB hb; (try clear hb); (try clear hk)) | ((with_reducible refine gate_dst (N := 5) rfl ?_); (try (refine gate_guard (by rfl) ?_; dsimp only)); refine boxK HB (N := 5) (cs := #[.int .i64 0, .int .i64 0]) (t := 23) (h := ?_); clear HB; intro gb1 hg w10 BK1 GW1 GE1 HB hb; clear hb hg; obtain ⟨hcz11_0, hcz11_1, hfz11_0, hfz11_1⟩ := kc2 BK1) | ((with_reducible refine gate_callee (f := 5) rfl ?_); refine goK (some 75) Try.func5 #[.agg #[.int .i64 t760, .int .i64 t761], .int .i64 t762, .int .i64 t763] ?_; (with_reducible refine (impl_MakePuzzle.calls k t760 t761 t762 t763 t765 t768 _ A6.out).mono ?_); rintro e w12 ⟨v766, rfl, ho0, hb⟩; refine ⟨_, rfl, ?_⟩; have HO767 := Aside0.mk (Kd.R_lower ho0 (below_size (bw HB))); replace BK1 := kbt (cs' := #[.int .i64 t760, .int .i64 t761]) BK1 hb; replace HB := kw HB hb; (try clear hb); (try clear hk); (try clear ho0)) | ((with_reducible refine gate_dst (N := 8) rfl ?_); (try (refine gate_guard (by rfl) ?_; dsimp only)); refine boxK HB (N := 8) (cs := #[.slice none 0 0]) (t := 26) (h := ?_); clear HB; intro gb2 hg w13 BK2 GW2 GE2 HB hb; replace HO767 := ko HO767 hb; obtain ⟨NB1_2, NB2_1⟩ := nv1 hg BK1; replace BK1 := kb BK1 hb; clear hb hg; obtain ⟨Ao14, co14, eo14⟩ := Kd.R_slice HO767.out; subst eo14; have hnb15 := up1 NB2_1; obtain ⟨hcz16_0, hfz16_0⟩ := kc1 BK2; obtain ⟨hcz17_0, hcz17_1, hfz17_0, hfz17_1⟩ := kc2 BK1) | ((with_reducible refine gate_callee (f := 6) rfl ?_); refine goK (some 82) Try.func6 #[.agg #[.int .i64 t760, .int .i64 t761], .int .i64 t762, .int .i64 t763] ?_; (with_reducible refine (spec_MakePuzzle.calls k t760 t761 t762 t763 t770 t773 _ A7.out).mono ?_); rintro e w18 ⟨v771, rfl, ho0, hb⟩; refine ⟨_, rfl, ?_⟩; have HO772 := Aside0.mk (Kd.R_lower (Kd.R_new' ho0 (Kd.R_lt (by (with_reducible repeat (first | apply Kd.R_alloc | apply Kd.R_drewN | apply Kd.R_drew)); exact (Kd.R_mono (Kd.R_far (p := ⟨gb2, 0, none⟩) (Kd.R_types HO767.out BK2.out (by decide)) (fun _ hk => hk.2) (.slice Ao14 t765.length co14)) (fun _ h_ => h_.1))))) (below_size (bw HB))); replace HO767 := Aside0.mk (Kd.R_elder' (by (with_reducible repeat (first | apply Kd.R_alloc | apply Kd.R_drewN | apply Kd.R_drew)); exact (Kd.R_mono (Kd.R_far (p := ⟨gb2, 0, none⟩) (Kd.R_types HO767.out BK2.out (by decide)) (fun _ hk => hk.2) (.slice Ao14 t765.length co14)) (fun _ h_ => h_.1))) (Kd.R_base ho0) hb); replace BK1 := kbf BK1 NB1_2 hb; replace BK2 := kbt (cs' := #[.slice Ao14 t765.length co14]) BK2 hb; replace HB := kw HB hb; (try clear hb); (try clear hk); (try clear ho0)) | ((with_reducible refine gate_dst (N := 10) rfl ?_); (try (refine gate_guard (by rfl) ?_; dsimp only)); refine boxK HB (N := 10) (cs := #[.slice none 0 0]) (t := 26) (h := ?_); clear HB; intro gb3 hg w19 BK3 GW3 GE3 HB hb; replace HO767 := ko HO767 hb; replace HO772 := ko HO772 hb; obtain ⟨NB1_3, NB3_1, NB2_3, NB3_2⟩ := nv2 hg BK1 BK2; refine mv2 hb BK1 BK2 ?_; clear BK1 BK2; intro BK1 BK2; clear hb hg; obtain ⟨Ao20, co20, eo20⟩ := Kd.R_slice HO772.out; subst eo20; have hnb21 := up2 NB3_1 NB3_2; obtain ⟨hcz23_0, hfz23_0⟩ := kc1 BK3))
 (try simp only [Act.put, List.setIfInBounds_toArray, List.set_cons_zero, List.set_cons_succ])
 go_cut [95, 62, 63, 64, 65, 66, 67, 68, 69, 70, 71, 72, 73, 74, 75, 76, 77, 78, 79, 80, 81, 82, 83, 84] from 1 to 0 (fun v95 _ _ _ _ _ _ _ _ _ _ _ _ _ _ _ _ _ _ _ _ _ _ _ wc => ∃ (kq : Nat) (x95_7 : Bool), v95 = .bool x95_7 ∧ Aside0 (laws_FnSnailsHidden.j0 kq l1 t762 t768 x95_7 t760 t761 t765 = some r) ∧ Aside0 (kq ≤ k) ∧ Aside0 (Kd.R k28 28 wc w.heap.size (fun _ => True) (.slice Ao14 t765.length co14) t765) ∧ Aside0 (wc.heap[gb1]? = some (.cells #[.int .i64 t760, .int .i64 t761] 23 (0, 0))) ∧ Aside0 (wc.heap[gb2]? = some (.cells #[(.slice Ao14 t765.length co14)] 26 (0, 0))) ∧ Aside0 (Below w.heap.size w wc))
 case first =>
  have H := HC8.out
  clear HC8
  replace H := iteC H; rcases H with ⟨c24, H⟩ | ⟨c24, H⟩
  ·
   have c24b0 : (t768 != t773) = true := c24
   (try (have c24b1 : decide (t768 = t773) = false := by simpa using c24))
   (try (have c24b2 : (t768 == t773) = false := by simpa using c24))
   (try (have c24b3 : ¬ (t768 = t773) := by simpa using c24))
   clear c24
   (first | rw [c24b0] | (simp only [i64_w, i32_w]; rw [c24b0]) | skip)
   have H' := Aside0.mk H
   clear H
   go_wp2
   go_meet
   case rel => exact ⟨_, (true), (by first | rfl | (simp; done) | (simp [*]; done)), H', ⟨by first | omega | exact Nat.le_refl _⟩, ⟨by (with_reducible repeat (first | apply Kd.R_alloc | apply Kd.R_drewN | apply Kd.R_drew)); exact Kd.R_mono (Kd.R_far (p := ⟨gb3, 0, none⟩) (Kd.R_types HO767.out BK3.out (by decide)) (fun _ hk => hk.2) (.slice Ao20 t770.length co20)) (fun _ hk => trivial)⟩, ⟨bf BK1 NB1_3⟩, ⟨bf BK2 NB2_3⟩, ⟨bw HB⟩⟩
  have c24b0 : (t768 != t773) = false := by simpa using c24
  (try (have c24b1 : decide (t768 = t773) = true := by simpa using c24))
  (try (have c24b2 : (t768 == t773) = true := by simpa using c24))
  clear c24
  (first | rw [c24b0] | (simp only [i64_w, i32_w]; rw [c24b0]) | skip)
  replace H := bindS H; obtain ⟨t775, A25, H⟩ := H
  have H' := Aside0.mk H
  clear H
  have hnb26 := up2 NB2_1 NB2_3
  obtain ⟨hcz28_0, hfz28_0⟩ := kc1 BK2
  have hnb29 := up1 NB3_1
  obtain ⟨hcz30_0, hfz30_0⟩ := kc1 BK3
  go_wp2_with (first | (go_at_call 7; (with_reducible refine (laws_qClues.calls k _ _ t765 _ _ t770 t775 _ ?side1 ?side2 ?side3 ?side4 A25.out).mono ?_); (case side1 => exact rsf HO767 BK3); (case side2 => exact rl HO767); (case side3 => exact rsf HO772 BK3); (case side4 => exact rl HO772); rintro e w' ⟨rfl, ⟨nd, rfl⟩⟩))
  go_meet
  case rel => exact ⟨_, (!t775), (by first | rfl | (simp; done) | (simp [*]; done)), H', ⟨by first | omega | exact Nat.le_refl _⟩, ⟨by (with_reducible repeat (first | apply Kd.R_alloc | apply Kd.R_drewN | apply Kd.R_drew)); exact Kd.R_mono (Kd.R_far (p := ⟨gb3, 0, none⟩) (Kd.R_types HO767.out BK3.out (by decide)) (fun _ hk => hk.2) (.slice Ao20 t770.length co20)) (fun _ hk => trivial)⟩, ⟨bf BK1 NB1_3⟩, ⟨bf BK2 NB2_3⟩, ⟨bw HB⟩⟩
 case rest =>
  clear HC8
  try clear c1
  try clear hcz11_0
  try clear hcz11_1
  try clear hcz16_0
  try clear hcz17_0
  try clear hcz17_1
  try clear hcz23_0
  try clear hfz11_0
  try clear hfz11_1
  try clear hfz16_0
  try clear hfz17_0
  try clear hfz17_1
  try clear hfz23_0
  obtain ⟨kq, x95_7, rfl, HA, HJ7, HO_770000, BK1, BK2, HB⟩ := hcut
  exact laws_FnSnailsHidden.r1 k A0 c0 l0 A1 c1 l1 r w HR1 HC1 t760 t761 t762 t763 t765 t768 t773 _ rfl nd gb1 gb2 NB1_2 NB2_1 Ao14 co14 gb3 _ (by assumption) _ (by assumption) wc u62 u63 u64 u65 u66 u67 u68 u69 u70 u71 u72 u73 u74 u75 u76 u77 u78 u79 u80 u81 u82 u83 u84 u85 u86 u87 u88 u89 u90 u91 u92 u93 u94 kq x95_7 HA HJ7 HO_770000 BK1 BK2 HB
/-- THE ONE PURE STATEMENT of laws_FnSnailsHidden: yours. -/
def laws_FnSnailsHidden.Pure : Prop := ∀ (l0 : List Int) (l1 : List Int), l0.length ≤ maxLen → l0.length * 1 ≤ 140737488351232 → (∀ x ∈ l0, (Lit.int .u8 x).wf = true) → l1.length ≤ maxLen → l1.length * 1 ≤ 140737488351232 → (∀ x ∈ l1, (Lit.int .u8 x).wf = true) → ∃ k, laws_FnSnailsHidden.f k l0 l1 = some true
theorem laws_FnSnailsHidden.walk (P : laws_FnSnailsHidden.Pure) (a0 : Option Addr) (len0 cap0 : Nat) (z0 : List Int) (a1 : Option Addr) (len1 cap1 : Nat) (z1 : List Int) (w : World) (w0 : (a0 = none ∧ len0 = 0 ∧ cap0 = 0 ∧ z0 = []) ∨ ∃ x, a0 = some x ∧ len0 ≤ cap0 ∧ cap0 ≤ maxLen ∧ z0.length = cap0 ∧ (∀ i, i < z0.length → w.cell? (x.add i) = some (.int .u8 (z0.getD i 0))) ∧ ∀ n ∈ z0, (Lit.int .u8 n).wf = true) (y0 : len0 * 1 ≤ 140737488351232) (w1 : (a1 = none ∧ len1 = 0 ∧ cap1 = 0 ∧ z1 = []) ∨ ∃ x, a1 = some x ∧ len1 ≤ cap1 ∧ cap1 ≤ maxLen ∧ z1.length = cap1 ∧ (∀ i, i < z1.length → w.cell? (x.add i) = some (.int .u8 (z1.getD i 0))) ∧ ∀ n ∈ z1, (Lit.int .u8 n).wf = true) (y1 : len1 * 1 ≤ 140737488351232) :
    Calls Try.prog 4 #[.slice a0 len0 cap0, .slice a1 len1 cap1] w fun e w' => e = .returned (.bool true) ∧ Below w.heap.size w w' := by
  obtain ⟨l0, rfl, hr0, hm0, hw0, hc0⟩ := ReadsInt.ofRowC w0
  obtain ⟨l1, rfl, hr1, hm1, hw1, hc1⟩ := ReadsInt.ofRowC w1
  obtain ⟨k, h⟩ := P l0 l1 hm0 y0 hw0 hm1 y1 hw1
  refine (laws_FnSnailsHidden.calls k _ _ l0 _ _ l1 true w (Kd.C_of_reads (d := (0 : Int)) (h1 := fun _ => rfl) hr0) hc0 (Kd.C_of_reads (d := (0 : Int)) (h1 := fun _ => rfl) hr1) hc1 h).mono ?_
  rintro e w' ⟨rfl, hd⟩
  exact ⟨rfl, hd⟩



end Go.Proofs.Ytlpjooijkeadbaa.PH
