-- Written by a program of our own (wip/tools/xprint.py) for this claim; Lean checks it.
import Derived.Test.YtlpjooijkeadbaaPHx0
import Derived.Test.YtlpjooijkeadbaaPHx3
import Derived.Test.YtlpjooijkeadbaaPHx4
import Derived.Test.YtlpjooijkeadbaaPHx5
import Derived.Test.YtlpjooijkeadbaaPHx7
import Derived.Test.YtlpjooijkeadbaaPHx8
import Derived.Test.YtlpjooijkeadbaaPHx9
import Derived.Test.YtlpjooijkeadbaaPHx12
import Derived.Test.YtlpjooijkeadbaaPHx14
import Derived.Test.YtlpjooijkeadbaaPHx15
import Derived.Test.YtlpjooijkeadbaaPHx16
import Derived.Test.YtlpjooijkeadbaaKC
import Derived.Test.YtlpjooijkeadbaaPHx17p3
namespace Go.Proofs.Ytlpjooijkeadbaa.PH
open Go.RowKit Go.Proofs.YtlpjooijkeadbaaK Go.Proofs.YtlpjooijkeadbaaW.PrintWords Go.Proofs.YtlpjooijkeadbaaW.PrintLast Go.Proofs.YtlpjooijkeadbaaW.PrintMore
attribute [local go_sem] max2_int min2_int max_two min_two max_three min_three max_four min_four   -- for this text's walks alone
set_option linter.unusedVariables false
set_option linter.unusedSimpArgs false

attribute [local go_sem high] eqA28
set_option maxHeartbeats 8000000 in
set_option maxRecDepth 100000 in
theorem laws_FnSnailsHidden.r2 (k : Nat) (A0 : Option Addr) (c0 : Nat) (l0 : List Int) (A1 : Option Addr) (c1 : Nat) (l1 : List Int) (r : Bool) (w : World) (HR1 : Aside0 ((Kd.int IntKind.u8).C w A1 l1.length l1)) (HC1 : Aside0 (l1.length ≤ c1)) (t762 t763 : Int) (t768 t773 : Bool) (nd gb1 gb2 gb3 : Nat) (u62 u63 u64 u65 u66 u67 u68 u69 u70 u71 u72 u73 u74 u75 u76 u77 u78 u79 u80 u81 u82 u83 u84 u85 u86 u87 u88 u89 u90 u91 u92 u93 u94 : Value) (kj7 : Nat) (HJ7 : Aside0 (kj7 + 1 ≤ k)) (Qz3 : Exit → Act → World → Prop) (hQz3 : Qz3 = bodyPost Try.prog Try.f4 fun e w' => e = Ending.returned (Value.bool r) ∧ Below w.heap.size w w') (Kz4 : Act → World → Prop) (az5 : ∀ (a : Act) (w : World), Code.wp Try.prog (cAt [1, 1, 1, 1, 1, 1, 1] Try.f4) Qz3 a w → Kz4 a w) (wc : World) (u4 u12 u13 u14 u15 u16 u17 u18 u19 u20 u21 u23 u24 u25 u95 u96 u97 u98 u99 u100 u101 u102 u103 u104 u105 u106 u107 u108 u109 u110 u111 u112 u113 u114 u115 u116 u117 u118 u119 u120 u121 u122 u123 u124 u125 u126 u127 u128 u129 u130 u131 u132 u133 u134 u135 u136 u137 u138 u139 u140 u141 u142 u143 u144 u145 u146 u147 u148 u149 u150 u151 u152 u153 u154 u155 u156 u157 u158 u159 u160 u161 u162 u163 u164 u165 u166 u167 u168 u169 u170 u171 u172 u173 u174 u175 u176 u177 u178 u179 u180 u181 u182 u183 u184 u185 u186 u187 u188 u189 u190 u191 u192 u193 u194 u195 u196 u197 : Value) (kq : Nat) (HA : Aside0 (j3 kq l1 = some r)) (HJ31 : Aside0 (kq ≤ kj7)) (HB : Aside0 (Below w.heap.size w wc)) :
    Kz4 { tmps := #[Value.slice A0 l0.length c0, Value.slice A1 l1.length c1, undef, undef, u4, Value.pointer (some { block := gb1, off := 0 }), Value.int IntKind.i64 t762, Value.int IntKind.i64 t763, Value.pointer (some { block := gb2, off := 0 }), Value.bool t768, Value.pointer (some { block := gb3, off := 0 }), Value.bool t773, u12, u13, u14, u15, u16, u17, u18, u19, u20, u21, undef, u23, u24, u25, undef, undef, undef, undef, undef, undef, undef, undef, undef, undef, undef, undef, undef, undef, undef, undef, undef, undef, undef, undef, undef, undef, undef, undef, undef, undef, undef, undef, undef, undef, undef, undef, undef, undef, undef, undef, u62, u63, u64, u65, u66, u67, u68, u69, u70, u71, u72, u73, u74, u75, u76, u77, u78, u79, u80, u81, u82, u83, u84, u85, u86, u87, u88, u89, u90, u91, u92, u93, u94, u95, u96, u97, u98, u99, u100, u101, u102, u103, u104, u105, u106, u107, u108, u109, u110, u111, u112, u113, u114, u115, u116, u117, u118, u119, u120, u121, u122, u123, u124, u125, u126, u127, u128, u129, u130, u131, u132, u133, u134, u135, u136, u137, u138, u139, u140, u141, u142, u143, u144, u145, u146, u147, u148, u149, u150, u151, u152, u153, u154, u155, u156, u157, u158, u159, u160, u161, u162, u163, u164, u165, u166, u167, u168, u169, u170, u171, u172, u173, u174, u175, u176, u177, u178, u179, u180, u181, u182, u183, u184, u185, u186, u187, u188, u189, u190, u191, u192, u193, u194, u195, u196, u197, undef, undef, undef, undef, undef, undef, undef, undef, undef, undef, undef, undef, undef, undef, undef, undef, undef, undef, undef, undef, undef, undef, undef, undef, undef, undef, undef, undef, undef, undef, undef, undef, undef, undef, undef, undef, undef, undef, undef, undef, undef, undef, undef, undef, undef, undef, undef, undef, undef, undef, undef, undef, undef, undef, undef, undef, undef, undef, undef, undef, undef, undef, undef, undef, undef, undef, undef, undef, undef, undef, undef, undef, undef, undef, undef, undef, undef, undef, undef, undef, undef, undef, undef, undef, undef, undef, undef, undef, undef, undef, undef, undef, undef, undef, undef, undef, undef, undef, undef, undef, undef, undef, undef, undef, undef, undef, undef, undef, undef, undef, undef, undef, undef, undef, undef, undef, undef, undef, undef, undef, undef, undef, undef, undef, undef, undef, undef, undef, undef, undef, undef, undef, undef, undef, undef, undef, undef, undef, undef, undef, undef, undef, undef, undef, undef, undef, undef, undef, undef, undef, undef, undef, undef, undef, undef, undef, undef, undef, undef, undef, undef, undef, undef, undef, undef, undef, undef, undef, undef, undef, undef, undef, undef, undef, undef, undef, undef, undef, undef, undef, undef, undef, undef, undef, undef, undef, undef, undef, undef, undef, undef, undef, undef, undef, undef, undef, undef, undef, undef, undef, undef, undef, undef, undef, undef, undef, undef, undef, undef, undef, undef, undef, undef, undef, undef, undef, undef, undef, undef, undef, undef, undef, undef, undef, undef, undef, undef, undef, undef, undef, undef, undef, undef, undef, undef, undef, undef, undef, undef, undef, undef], defers := [] } wc  := by
 subst hQz3
 (try dsimp only)
 conv at az5 => ext a w; lhs; arg 2; whnf
 cases kq with
 | zero => exact absurd HA.out (by simp [laws_FnSnailsHidden.j3])
 | succ kj31 =>
  have H := HA.out
  clear HA
  simp only [laws_FnSnailsHidden.j3] at H
  replace H := bindS H; obtain ⟨t791, A165, H⟩ := H
  replace H := bindS H; obtain ⟨⟨t795, t798⟩, A166, H⟩ := H
  replace H := bindS H; obtain ⟨⟨t800, t803⟩, A167, H⟩ := H
  replace H := bindS H; obtain ⟨⟨t805, t806⟩, A168, H⟩ := H
  have HC169 := Aside0.mk H
  clear H
  go_upto_region 27 with (first | ((with_reducible refine gate_callee (f := 27) rfl ?_); refine goK (some 199) Try.func27 #[.slice A1 l1.length c1] ?_; (with_reducible refine (spec_DrawHarderPuzzle.calls kj31 _ _ l1 t791 _ ?side1 ?side2 A165.out).mono ?_); (case side1 => exact cb HR1 HB); (case side2 => exact HC1.out); rintro e w170 ⟨v792, rfl, ho0, hb⟩; refine ⟨_, rfl, ?_⟩; have HO793 := Aside0.mk (Kd.R_lower ho0 (below_size (bw HB))); replace HB := kw HB hb; (try clear hb); (try clear hk); (try clear ho0)) | ((with_reducible refine gate_dst (N := 26) rfl ?_); (try (refine gate_guard (by rfl) ?_; dsimp only)); refine boxK HB (N := 26) (cs := #[.slice none 0 0]) (t := 26) (h := ?_); clear HB; intro gb5 hg w171 BK5 GW5 GE5 HB hb; replace HO793 := ko HO793 hb; clear hb hg; obtain ⟨Ao172, co172, eo172⟩ := Kd.R_slice HO793.out; subst eo172; obtain ⟨hcz173_0, hfz173_0⟩ := kc1 BK5) | ((with_reducible refine gate_callee (f := 12) rfl ?_); refine goK (some 202) Try.func12 #[.agg #[.slice Ao172 t791.length co172]] ?_; (with_reducible refine (impl_HarderPuzzle.calls kj31 _ _ t791 t795 t798 _ ?side1 ?side2 A166.out).mono ?_); (case side1 => exact rsf HO793 BK5); (case side2 => exact rl HO793); rintro e w174 ⟨v796, rfl, ho0, hb⟩; refine ⟨_, rfl, ?_⟩; have HO797 := Aside0.mk (Kd.R_lower (Kd.R_new' ho0 (Kd.R_lt (by (with_reducible repeat (first | apply Kd.R_alloc | apply Kd.R_drewN | apply Kd.R_drew)); exact (Kd.R_mono (Kd.R_far (p := ⟨gb5, 0, none⟩) (Kd.R_types HO793.out BK5.out (by decide)) (fun _ hk => hk.2) (.slice Ao172 t791.length co172)) (fun _ h_ => h_.1))))) (below_size (bw HB))); replace HO793 := Aside0.mk (Kd.R_elder' (by (with_reducible repeat (first | apply Kd.R_alloc | apply Kd.R_drewN | apply Kd.R_drew)); exact (Kd.R_mono (Kd.R_far (p := ⟨gb5, 0, none⟩) (Kd.R_types HO793.out BK5.out (by decide)) (fun _ hk => hk.2) (.slice Ao172 t791.length co172)) (fun _ h_ => h_.1))) (Kd.R_base ho0) hb); replace BK5 := kbt (cs' := #[.slice Ao172 t791.length co172]) BK5 hb; replace HB := kw HB hb; (try clear hb); (try clear hk); (try clear ho0)) | ((with_reducible refine gate_dst (N := 27) rfl ?_); (try (refine gate_guard (by rfl) ?_; dsimp only)); refine boxK HB (N := 27) (cs := #[.slice none 0 0]) (t := 26) (h := ?_); clear HB; intro gb6 hg w175 BK6 GW6 GE6 HB hb; replace HO793 := ko HO793 hb; replace HO797 := ko HO797 hb; obtain ⟨NB5_6, NB6_5⟩ := nv1 hg BK5; replace BK5 := kb BK5 hb; clear hb hg; obtain ⟨Ao176, co176, eo176⟩ := Kd.R_slice HO797.out; subst eo176; have hnb177 := up1 NB6_5; obtain ⟨hcz178_0, hfz178_0⟩ := kc1 BK6; obtain ⟨hcz179_0, hfz179_0⟩ := kc1 BK5) | ((with_reducible refine gate_callee (f := 13) rfl ?_); refine goK (some 207) Try.func13 #[.agg #[.slice Ao172 t791.length co172]] ?_; (with_reducible refine (spec_HarderPuzzle.calls kj31 _ _ t791 t800 t803 _ ?side1 ?side2 A167.out).mono ?_); (case side1 => exact rsf HO793 BK6); (case side2 => exact rl HO793); rintro e w180 ⟨v801, rfl, ho0, hb⟩; refine ⟨_, rfl, ?_⟩; have HO802 := Aside0.mk (Kd.R_lower (Kd.R_new' (Kd.R_new' ho0 (Kd.R_lt (by (with_reducible repeat (first | apply Kd.R_alloc | apply Kd.R_drewN | apply Kd.R_drew)); exact (Kd.R_mono (Kd.R_far (p := ⟨gb6, 0, none⟩) (Kd.R_types HO793.out BK6.out (by decide)) (fun _ hk => hk.2) (.slice Ao176 t795.length co176)) (fun _ h_ => h_.1))))) (Kd.R_lt (by (with_reducible repeat (first | apply Kd.R_alloc | apply Kd.R_drewN | apply Kd.R_drew)); exact (Kd.R_mono (Kd.R_far (p := ⟨gb6, 0, none⟩) (Kd.R_types HO797.out BK6.out (by decide)) (fun _ hk => hk.2) (.slice Ao176 t795.length co176)) (fun _ h_ => h_.1))))) (below_size (bw HB))); replace HO793 := Aside0.mk (Kd.R_elder' (by (with_reducible repeat (first | apply Kd.R_alloc | apply Kd.R_drewN | apply Kd.R_drew)); exact (Kd.R_mono (Kd.R_far (p := ⟨gb6, 0, none⟩) (Kd.R_types HO793.out BK6.out (by decide)) (fun _ hk => hk.2) (.slice Ao176 t795.length co176)) (fun _ h_ => h_.1))) (Kd.R_base ho0) hb); replace HO797 := Aside0.mk (Kd.R_elder' (by (with_reducible repeat (first | apply Kd.R_alloc | apply Kd.R_drewN | apply Kd.R_drew)); exact (Kd.R_mono (Kd.R_far (p := ⟨gb6, 0, none⟩) (Kd.R_types HO797.out BK6.out (by decide)) (fun _ hk => hk.2) (.slice Ao176 t795.length co176)) (fun _ h_ => h_.1))) (Kd.R_base ho0) hb); replace BK5 := kbf BK5 NB5_6 hb; replace BK6 := kbt (cs' := #[.slice Ao176 t795.length co176]) BK6 hb; replace HB := kw HB hb; (try clear hb); (try clear hk); (try clear ho0)) | ((with_reducible refine gate_dst (N := 29) rfl ?_); (try (refine gate_guard (by rfl) ?_; dsimp only)); refine boxK HB (N := 29) (cs := #[.slice none 0 0]) (t := 26) (h := ?_); clear HB; intro gb7 hg w181 BK7 GW7 GE7 HB hb; replace HO793 := ko HO793 hb; replace HO797 := ko HO797 hb; replace HO802 := ko HO802 hb; obtain ⟨NB5_7, NB7_5, NB6_7, NB7_6⟩ := nv2 hg BK5 BK6; refine mv2 hb BK5 BK6 ?_; clear BK5 BK6; intro BK5 BK6; clear hb hg; obtain ⟨Ao182, co182, eo182⟩ := Kd.R_slice HO802.out; subst eo182; have hnb183 := up2 NB7_5 NB7_6; obtain ⟨hcz185_0, hfz185_0⟩ := kc1 BK7; obtain ⟨hcz186_0, hfz186_0⟩ := kc1 BK5) | ((with_reducible refine gate_callee (f := 14) rfl ?_); refine goK (some 212) Try.func14 #[.agg #[.slice Ao172 t791.length co172]] ?_; (with_reducible refine (impl_IsSolved.calls kj31 _ _ t791 t805 t806 _ ?side1 ?side2 A168.out).mono ?_); (case side1 => exact rsf HO793 BK7); (case side2 => exact rl HO793); rintro e w187 ⟨rfl, hb⟩; refine ⟨_, rfl, ?_⟩; replace HO793 := kof HO793 BK7 hb; replace HO797 := kof HO797 BK7 hb; replace HO802 := kof HO802 BK7 hb; replace BK5 := kbf BK5 NB5_7 hb; replace BK6 := kbf BK6 NB6_7 hb; replace BK7 := kbt (cs' := #[.slice Ao182 t800.length co182]) BK7 hb; replace HB := kw HB hb; (try clear hb); (try clear hk)))
  (try simp only [Act.put, List.setIfInBounds_toArray, List.set_cons_zero, List.set_cons_succ])
  go_cut [233, 198, 199, 200, 201, 202, 203, 204, 205, 206, 207, 208, 209, 210, 211, 212, 213, 214] from 1 to 0 (fun v233 _ _ _ _ _ _ _ _ _ _ _ _ _ _ _ _ _ wc => ∃ (kq : Nat) (x233_168 : Bool), v233 = .bool x233_168 ∧ Aside0 (laws_FnSnailsHidden.j4 kq l1 t798 x233_168 t791 t795 = some r) ∧ Aside0 (kq ≤ kj31) ∧ Aside0 (Kd.R k28 28 wc w.heap.size (fun k_ => some k_ ≠ ((.slice Ao176 t795.length co176) : Value).ownBlock) (.slice Ao172 t791.length co172) t791) ∧ Aside0 (Kd.R k28 28 wc w.heap.size (fun k_ => some k_ ≠ ((.slice Ao172 t791.length co172) : Value).ownBlock) (.slice Ao176 t795.length co176) t795) ∧ Aside0 (wc.heap[gb5]? = some (.cells #[(.slice Ao172 t791.length co172)] 26 (0, 0))) ∧ Aside0 (wc.heap[gb6]? = some (.cells #[(.slice Ao176 t795.length co176)] 26 (0, 0))) ∧ Aside0 (Below w.heap.size w wc))
  case first =>
   have H := HC169.out
   clear HC169
   replace H := iteC H; rcases H with ⟨c188, H⟩ | ⟨c188, H⟩
   ·
    have c188b0 : (t798 != t803) = true := c188
    (try (have c188b1 : decide (t798 = t803) = false := by simpa using c188))
    (try (have c188b2 : (t798 == t803) = false := by simpa using c188))
    (try (have c188b3 : ¬ (t798 = t803) := by simpa using c188))
    clear c188
    (first | rw [c188b0] | (simp only [i64_w, i32_w]; rw [c188b0]) | skip)
    have H' := Aside0.mk H
    clear H
    go_wp2
    go_meet
    case rel => exact ⟨_, (true), (by first | rfl | (simp; done) | (simp [*]; done)), H', ⟨by have := HJ7.out; have := HJ31.out; first | omega | exact Nat.le_refl _⟩, ⟨by (with_reducible repeat (first | apply Kd.R_alloc | apply Kd.R_drewN | apply Kd.R_drew)); exact Kd.R_mono HO793.out (fun _ hk => hk.1.2)⟩, ⟨by (with_reducible repeat (first | apply Kd.R_alloc | apply Kd.R_drewN | apply Kd.R_drew)); exact Kd.R_mono HO797.out (fun _ hk => hk.1.2)⟩, ⟨bk BK5⟩, ⟨bk BK6⟩, ⟨bw HB⟩⟩
   have c188b0 : (t798 != t803) = false := by simpa using c188
   (try (have c188b1 : decide (t798 = t803) = true := by simpa using c188))
   (try (have c188b2 : (t798 == t803) = true := by simpa using c188))
   clear c188
   (first | rw [c188b0] | (simp only [i64_w, i32_w]; rw [c188b0]) | skip)
   replace H := bindS H; obtain ⟨t807, A189, H⟩ := H
   replace H := iteB H; rcases H with ⟨rfl, H⟩ | ⟨rfl, H⟩
   rotate_left
   ·
    have H' := Aside0.mk H
    clear H
    have hnb202 := up2 NB6_5 NB6_7
    obtain ⟨hcz204_0, hfz204_0⟩ := kc1 BK6
    have hnb205 := up1 NB7_5
    obtain ⟨hcz206_0, hfz206_0⟩ := kc1 BK7
    go_wp2_with (first | (go_at_call 7; (with_reducible refine (laws_qClues.calls kj31 _ _ t795 _ _ t800 false _ ?side1 ?side2 ?side3 ?side4 A189.out).mono ?_); (case side1 => exact rs HO797); (case side2 => exact rl HO797); (case side3 => exact rs HO802); (case side4 => exact rl HO802); rintro e w' ⟨rfl, ⟨nd, rfl⟩⟩))
    go_meet
    case rel => exact ⟨_, (true), (by first | rfl | (simp; done) | (simp [*]; done)), H', ⟨by have := HJ7.out; have := HJ31.out; first | omega | exact Nat.le_refl _⟩, ⟨by (with_reducible repeat (first | apply Kd.R_alloc | apply Kd.R_drewN | apply Kd.R_drew)); exact Kd.R_mono HO793.out (fun _ hk => hk.1.2)⟩, ⟨by (with_reducible repeat (first | apply Kd.R_alloc | apply Kd.R_drewN | apply Kd.R_drew)); exact Kd.R_mono HO797.out (fun _ hk => hk.1.2)⟩, ⟨bk BK5⟩, ⟨bk BK6⟩, ⟨bw HB⟩⟩
   replace H := iteB H; rcases H with ⟨rfl, H⟩ | ⟨rfl, H⟩
   ·
    have H' := Aside0.mk H
    clear H
    have hnb192 := up2 NB6_5 NB6_7
    obtain ⟨hcz194_0, hfz194_0⟩ := kc1 BK6
    have hnb195 := up1 NB7_5
    obtain ⟨hcz196_0, hfz196_0⟩ := kc1 BK7
    go_wp2_with (first | (go_at_call 7; (with_reducible refine (laws_qClues.calls kj31 _ _ t795 _ _ t800 true _ ?side1 ?side2 ?side3 ?side4 A189.out).mono ?_); (case side1 => exact rs HO797); (case side2 => exact rl HO797); (case side3 => exact rs HO802); (case side4 => exact rl HO802); rintro e w' ⟨rfl, ⟨nd, rfl⟩⟩))
    go_meet
    case rel => exact ⟨_, ((t798 != t805)), (by first | rfl | (simp; done) | (simp [*]; done)), H', ⟨by have := HJ7.out; have := HJ31.out; first | omega | exact Nat.le_refl _⟩, ⟨by (with_reducible repeat (first | apply Kd.R_alloc | apply Kd.R_drewN | apply Kd.R_drew)); exact Kd.R_mono HO793.out (fun _ hk => hk.1.2)⟩, ⟨by (with_reducible repeat (first | apply Kd.R_alloc | apply Kd.R_drewN | apply Kd.R_drew)); exact Kd.R_mono HO797.out (fun _ hk => hk.1.2)⟩, ⟨bk BK5⟩, ⟨bk BK6⟩, ⟨bw HB⟩⟩
   have H' := Aside0.mk H
   clear H
   have hnb197 := up2 NB6_5 NB6_7
   obtain ⟨hcz199_0, hfz199_0⟩ := kc1 BK6
   have hnb200 := up1 NB7_5
   obtain ⟨hcz201_0, hfz201_0⟩ := kc1 BK7
   go_wp2_with (first | (go_at_call 7; (with_reducible refine (laws_qClues.calls kj31 _ _ t795 _ _ t800 true _ ?side1 ?side2 ?side3 ?side4 A189.out).mono ?_); (case side1 => exact rs HO797); (case side2 => exact rl HO797); (case side3 => exact rs HO802); (case side4 => exact rl HO802); rintro e w' ⟨rfl, ⟨nd, rfl⟩⟩))
   go_meet
   case rel => exact ⟨_, ((t798 != false)), (by first | rfl | (simp; done) | (simp [*]; done)), H', ⟨by have := HJ7.out; have := HJ31.out; first | omega | exact Nat.le_refl _⟩, ⟨by (with_reducible repeat (first | apply Kd.R_alloc | apply Kd.R_drewN | apply Kd.R_drew)); exact Kd.R_mono HO793.out (fun _ hk => hk.1.2)⟩, ⟨by (with_reducible repeat (first | apply Kd.R_alloc | apply Kd.R_drewN | apply Kd.R_drew)); exact Kd.R_mono HO797.out (fun _ hk => hk.1.2)⟩, ⟨bk BK5⟩, ⟨bk BK6⟩, ⟨bw HB⟩⟩
  case rest =>
   clear HC169
   try clear c1
   try clear hcz11_0
   try clear hcz11_1
   try clear hcz16_0
   try clear hcz173_0
   try clear hcz178_0
   try clear hcz179_0
   try clear hcz17_0
   try clear hcz17_1
   try clear hcz185_0
   try clear hcz186_0
   try clear hcz23_0
   try clear hfz11_0
   try clear hfz11_1
   try clear hfz16_0
   try clear hfz173_0
   try clear hfz178_0
   try clear hfz179_0
   try clear hfz17_0
   try clear hfz17_1
   try clear hfz185_0
   try clear hfz186_0
   try clear hfz23_0
   obtain ⟨kq, x233_168, rfl, HA, HJ168, HO_795000, HO_800000, BK5, BK6, HB⟩ := hcut
   exact laws_FnSnailsHidden.r3 k A0 c0 l0 A1 c1 l1 r w HR1 HC1 t762 t763 t768 t773 nd gb1 gb2 gb3 u62 u63 u64 u65 u66 u67 u68 u69 u70 u71 u72 u73 u74 u75 u76 u77 u78 u79 u80 u81 u82 u83 u84 u85 u86 u87 u88 u89 u90 u91 u92 u93 u94 kj7 HJ7 u4 u12 u13 u14 u15 u16 u17 u18 u19 u20 u21 u23 u24 u25 u95 u96 u97 u98 u99 u100 u101 u102 u103 u104 u105 u106 u107 u108 u109 u110 u111 u112 u113 u114 u115 u116 u117 u118 u119 u120 u121 u122 u123 u124 u125 u126 u127 u128 u129 u130 u131 u132 u133 u134 u135 u136 u137 u138 u139 u140 u141 u142 u143 u144 u145 u146 u147 u148 u149 u150 u151 u152 u153 u154 u155 u156 u157 u158 u159 u160 u161 u162 u163 u164 u165 u166 u167 u168 u169 u170 u171 u172 u173 u174 u175 u176 u177 u178 u179 u180 u181 u182 u183 u184 u185 u186 u187 u188 u189 u190 u191 u192 u193 u194 u195 u196 u197 kj31 HJ31 t791 t795 t798 t803 t805 t806 _ rfl gb5 Ao172 co172 gb6 NB5_6 Ao176 co176 gb7 _ (by assumption) _ (by assumption) wc u198 u199 u200 u201 u202 u203 u204 u205 u206 u207 u208 u209 u210 u211 u212 u213 u214 u215 u216 u217 u218 u219 u220 u221 u222 u223 u224 u225 u226 u227 u228 u229 u230 u231 u232 kq x233_168 HA HJ168 HO_795000 HO_800000 BK5 BK6 HB

end Go.Proofs.Ytlpjooijkeadbaa.PH
