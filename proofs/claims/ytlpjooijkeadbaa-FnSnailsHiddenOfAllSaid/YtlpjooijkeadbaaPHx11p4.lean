-- Written by a program of our own (wip/tools/xprint.py) for this claim; Lean checks it.
import Derived.Test.YtlpjooijkeadbaaPHx0
import Derived.Test.YtlpjooijkeadbaaPHx3
import Derived.Test.YtlpjooijkeadbaaPHx4
import Derived.Test.YtlpjooijkeadbaaPHx5
import Derived.Test.YtlpjooijkeadbaaPHx7
import Derived.Test.YtlpjooijkeadbaaPHx8
import Derived.Test.YtlpjooijkeadbaaPHx9
import Derived.Test.YtlpjooijkeadbaaPHx10
import Derived.Test.YtlpjooijkeadbaaKC
import Derived.Test.YtlpjooijkeadbaaPHx11p5
namespace Go.Proofs.Ytlpjooijkeadbaa.PH
open Go.RowKit Go.Proofs.YtlpjooijkeadbaaK Go.Proofs.YtlpjooijkeadbaaW.PrintWords Go.Proofs.YtlpjooijkeadbaaW.PrintLast Go.Proofs.YtlpjooijkeadbaaW.PrintMore
attribute [local go_sem] max2_int min2_int max_two min_two max_three min_three max_four min_four   -- for this text's walks alone
set_option linter.unusedVariables false
set_option linter.unusedSimpArgs false

attribute [local go_sem high] eqA28
set_option maxHeartbeats 8000000 in
set_option maxRecDepth 100000 in
theorem laws_FnSnailsHiddenOfAll.r4 (k : Nat) (a0_0 a0_1 a1 a2 : Int) (A3_0 : Option Addr) (c3_0 : Nat) (l3_0 : List S28) (A4_0 : Option Addr) (c4_0 : Nat) (l4_0 : List S28) (a5_0 a5_1 a5_2 : Int) (A6_0 : Option Addr) (c6_0 : Nat) (l6_0 : List S28) (a7 a8_0 a8_1 a8_2 a9_0 a9_1 a10_0 a10_1 a10_2 : Int) (r : Bool) (w : World) (HR4_0 : Aside0 (k28.C w A4_0 l4_0.length l4_0)) (HC4_0 : Aside0 (l4_0.length ≤ c4_0)) (HR6_0 : Aside0 (k28.C w A6_0 l6_0.length l6_0)) (HC6_0 : Aside0 (l6_0.length ≤ c6_0)) (t375 t380 : Bool) (gb1 gb2 gb3 gb4 : Nat) (NB3_4 : Aside0 (gb3 ≠ gb4)) (gb5 : Nat) (NB3_5 : Aside0 (gb3 ≠ gb5)) (NB4_5 : Aside0 (gb4 ≠ gb5)) (gb6 : Nat) (NB3_6 : Aside0 (gb3 ≠ gb6)) (NB4_6 : Aside0 (gb4 ≠ gb6)) (NB5_6 : Aside0 (gb5 ≠ gb6)) (gb7 : Nat) (NB3_7 : Aside0 (gb3 ≠ gb7)) (NB4_7 : Aside0 (gb4 ≠ gb7)) (NB5_7 : Aside0 (gb5 ≠ gb7)) (NB6_7 : Aside0 (gb6 ≠ gb7)) (gb8 : Nat) (NB3_8 : Aside0 (gb3 ≠ gb8)) (NB4_8 : Aside0 (gb4 ≠ gb8)) (NB5_8 : Aside0 (gb5 ≠ gb8)) (NB6_8 : Aside0 (gb6 ≠ gb8)) (NB7_8 : Aside0 (gb7 ≠ gb8)) (gb9 gb10 : Nat) (u69 u70 u71 u72 u73 u74 u75 u76 u77 u78 u79 u80 u81 u82 u83 u84 u85 u86 u87 u88 u89 u90 u91 u92 : Value) (kj13 : Nat) (HJ13 : Aside0 (kj13 + 1 ≤ k)) (u27 u28 u29 u30 u31 u32 u33 u34 u35 u36 u38 u39 u40 u93 u94 u95 u96 u97 u98 u99 u100 u101 u102 u103 u104 u105 u106 u107 u108 u109 u110 u111 u112 u113 u114 u115 u116 u117 u118 u119 u120 u121 u122 u123 u124 u125 u126 u127 u128 u129 u130 u131 u132 u133 u134 u135 u136 u137 u138 u139 u140 u141 u142 u143 u144 u145 u146 u147 u148 u149 u150 u151 u152 u153 u154 u155 u156 u157 u158 u159 u160 u161 u162 u163 u164 u165 u166 u167 u168 u169 u170 u171 u172 u173 u174 u175 u176 u177 u178 u179 u180 u181 u182 u183 u184 u185 u186 u187 u188 u189 u190 u191 u192 u193 u194 u195 : Value) (kj78 : Nat) (HJ78 : Aside0 (kj78 + 1 ≤ kj13)) (t401 t406 t408 t409 : Bool) (gb12 gb13 : Nat) (u196 u197 u198 u199 u200 u201 u202 u203 u204 u205 u206 u207 u208 u209 u210 u211 u212 u213 u214 u215 u216 u217 u218 u219 u220 u221 u222 u223 u224 u225 u226 u227 u228 : Value) (kj389 : Nat) (HJ389 : Aside0 (kj389 + 1 ≤ kj78)) (Qz10 : Exit → Act → World → Prop) (hQz10 : Qz10 = bodyPost Try.prog Try.f3 fun e w' => e = Ending.returned (Value.bool r) ∧ Below w.heap.size w w') (Kz11 : Act → World → Prop) (az12 : ∀ (a : Act) (w : World), Code.wp Try.prog (cAt [1, 1, 1, 1, 1, 1, 1, 1, 1, 1] Try.f3) Qz10 a w → Kz11 a w) (wc : World) (u22 u47 u48 u49 u50 u51 u52 u229 u230 u231 u232 u233 u234 u235 u236 u237 u238 u239 u240 u241 u242 u243 u244 u245 u246 u247 u248 u249 u250 u251 u252 u253 u254 u255 u256 u257 u258 u259 u260 u261 u262 u263 u264 u265 u266 u267 u268 u269 u270 u271 u272 u273 u274 u275 : Value) (kq : Nat) (HA : Aside0 (j5 kq a7 l4_0 a5_0 a5_1 a5_2 l6_0 a8_0 a8_1 a8_2 a9_0 a9_1 a10_0 a10_1 a10_2 = some r)) (HJ479 : Aside0 (kq ≤ kj389)) (BK3 : Aside0 (wc.heap[gb3]? = some (Obj.cells #[Value.slice A4_0 l4_0.length c4_0] 26))) (BK4 : Aside0 (wc.heap[gb4]? = some (Obj.cells #[Value.int IntKind.i64 a5_0, Value.int IntKind.i64 a5_1, Value.int IntKind.i64 a5_2] 28))) (BK5 : Aside0 (wc.heap[gb5]? = some (Obj.cells #[Value.slice A6_0 l6_0.length c6_0] 26))) (BK6 : Aside0 (wc.heap[gb6]? = some (Obj.cells #[Value.int IntKind.i64 a8_0, Value.int IntKind.i64 a8_1, Value.int IntKind.i64 a8_2] 28))) (BK7 : Aside0 (wc.heap[gb7]? = some (Obj.cells #[Value.int IntKind.i64 a9_0, Value.int IntKind.i64 a9_1] 23))) (BK8 : Aside0 (wc.heap[gb8]? = some (Obj.cells #[Value.int IntKind.i64 a10_0, Value.int IntKind.i64 a10_1, Value.int IntKind.i64 a10_2] 28))) (HB : Aside0 (Below w.heap.size w wc)) :
    Kz11 { tmps := #[Value.agg #[Value.int IntKind.i64 a0_0, Value.int IntKind.i64 a0_1], Value.int IntKind.i64 a1, Value.int IntKind.i64 a2, Value.agg #[Value.slice A3_0 l3_0.length c3_0], Value.agg #[Value.slice A4_0 l4_0.length c4_0], Value.agg #[Value.int IntKind.i64 a5_0, Value.int IntKind.i64 a5_1, Value.int IntKind.i64 a5_2], Value.agg #[Value.slice A6_0 l6_0.length c6_0], Value.int IntKind.i64 a7, Value.agg #[Value.int IntKind.i64 a8_0, Value.int IntKind.i64 a8_1, Value.int IntKind.i64 a8_2], Value.agg #[Value.int IntKind.i64 a9_0, Value.int IntKind.i64 a9_1], Value.agg #[Value.int IntKind.i64 a10_0, Value.int IntKind.i64 a10_1, Value.int IntKind.i64 a10_2], Value.pointer (some { block := gb1, off := 0 }), undef, undef, Value.pointer (some { block := gb2, off := 0 }), Value.pointer (some { block := gb3, off := 0 }), Value.pointer (some { block := gb4, off := 0 }), Value.pointer (some { block := gb5, off := 0 }), undef, Value.pointer (some { block := gb6, off := 0 }), Value.pointer (some { block := gb7, off := 0 }), Value.pointer (some { block := gb8, off := 0 }), u22, Value.pointer (some { block := gb9, off := 0 }), Value.bool t375, Value.pointer (some { block := gb10, off := 0 }), Value.bool t380, u27, u28, u29, u30, u31, u32, u33, u34, u35, u36, undef, u38, u39, u40, Value.pointer (some { block := gb12, off := 0 }), Value.bool t401, Value.pointer (some { block := gb13, off := 0 }), Value.bool t406, Value.bool t408, Value.bool t409, u47, u48, u49, u50, u51, u52, undef, undef, undef, undef, undef, undef, undef, undef, undef, undef, undef, undef, undef, undef, undef, undef, u69, u70, u71, u72, u73, u74, u75, u76, u77, u78, u79, u80, u81, u82, u83, u84, u85, u86, u87, u88, u89, u90, u91, u92, u93, u94, u95, u96, u97, u98, u99, u100, u101, u102, u103, u104, u105, u106, u107, u108, u109, u110, u111, u112, u113, u114, u115, u116, u117, u118, u119, u120, u121, u122, u123, u124, u125, u126, u127, u128, u129, u130, u131, u132, u133, u134, u135, u136, u137, u138, u139, u140, u141, u142, u143, u144, u145, u146, u147, u148, u149, u150, u151, u152, u153, u154, u155, u156, u157, u158, u159, u160, u161, u162, u163, u164, u165, u166, u167, u168, u169, u170, u171, u172, u173, u174, u175, u176, u177, u178, u179, u180, u181, u182, u183, u184, u185, u186, u187, u188, u189, u190, u191, u192, u193, u194, u195, u196, u197, u198, u199, u200, u201, u202, u203, u204, u205, u206, u207, u208, u209, u210, u211, u212, u213, u214, u215, u216, u217, u218, u219, u220, u221, u222, u223, u224, u225, u226, u227, u228, u229, u230, u231, u232, u233, u234, u235, u236, u237, u238, u239, u240, u241, u242, u243, u244, u245, u246, u247, u248, u249, u250, u251, u252, u253, u254, u255, u256, u257, u258, u259, u260, u261, u262, u263, u264, u265, u266, u267, u268, u269, u270, u271, u272, u273, u274, u275, undef, undef, undef, undef, undef, undef, undef, undef, undef, undef, undef, undef, undef, undef, undef, undef, undef, undef, undef, undef, undef, undef, undef, undef, undef, undef, undef, undef, undef, undef, undef, undef, undef, undef, undef, undef, undef, undef, undef, undef, undef, undef, undef, undef, undef, undef, undef, undef, undef, undef, undef, undef, undef, undef, undef, undef, undef, undef, undef, undef, undef, undef, undef, undef, undef, undef, undef, undef, undef, undef, undef, undef, undef, undef, undef, undef, undef, undef, undef, undef, undef, undef, undef, undef, undef, undef, undef, undef, undef, undef, undef, undef, undef, undef, undef, undef, undef, undef, undef, undef, undef, undef, undef, undef, undef, undef, undef, undef, undef, undef, undef, undef, undef, undef, undef, undef, undef, undef, undef, undef, undef, undef, undef, undef, undef, undef, undef, undef, undef, undef, undef, undef, undef, undef, undef, undef, undef, undef, undef, undef, undef, undef], defers := [] } wc := by
 subst hQz10
 (try dsimp only)
 conv at az12 => ext a w; lhs; arg 2; whnf
 cases kq with
 | zero => exact absurd HA.out (by simp [laws_FnSnailsHiddenOfAll.j5])
 | succ kj479 =>
  have H := HA.out
  clear HA
  simp only [laws_FnSnailsHiddenOfAll.j5] at H
  replace H := bindS H; obtain ⟨⟨t424, t427⟩, A642, H⟩ := H
  replace H := bindS H; obtain ⟨⟨t429, t432⟩, A643, H⟩ := H
  replace H := bindS H; obtain ⟨⟨t434, t437⟩, A644, H⟩ := H
  replace H := bindS H; obtain ⟨⟨t439, t442⟩, A645, H⟩ := H
  replace H := bindS H; obtain ⟨⟨t444, t445⟩, A646, H⟩ := H
  replace H := bindS H; obtain ⟨⟨t446, t447⟩, A647, H⟩ := H
  have HC648 := Aside0.mk H
  clear H
  have hnb649 := up5 NB3_4 NB3_5 NB3_6 NB3_7 NB3_8
  obtain ⟨hcz654_0, hfz654_0⟩ := kc1 BK3
  have hnb655 := up4 NB4_5 NB4_6 NB4_7 NB4_8
  obtain ⟨hcz659_0, hcz659_1, hcz659_2, hfz659_0, hfz659_1, hfz659_2⟩ := kc3 BK4
  go_upto_region 37 with (first | ((with_reducible refine gate_callee (f := 18) rfl ?_); refine goesL_ (some 279) rfl rfl Try.func18 (by kernel_rfl) rfl #[.agg #[.slice A4_0 l4_0.length c4_0], .agg #[.int .i64 a5_0, .int .i64 a5_1, .int .i64 a5_2]] rfl argR ?_; (with_reducible refine (impl_AddClue.calls kj479 _ _ l4_0 a5_0 a5_1 a5_2 t424 t427 _ ?side1 ?side2 A642.out).mono ?_); (case side1 => exact cb HR4_0 HB); (case side2 => exact HC4_0.out); rintro e w660 ⟨v425, rfl, ho0, hb⟩; refine ⟨_, rfl, ?_⟩; have HO426 := Aside0.mk (Kd.R_lower (Kd.R_newB (Kd.R_newB (Kd.R_newB ho0 (bk BK4)) (bk BK6)) (bk BK8)) (below_size (bw HB))); refine mv6 hb BK3 BK4 BK5 BK6 BK7 BK8 ?_; clear BK3 BK4 BK5 BK6 BK7 BK8; intro BK3 BK4 BK5 BK6 BK7 BK8; replace HB := kw HB hb; (try clear hb); (try clear hk); (try clear ho0)) | ((with_reducible refine gate_dst (N := 53) rfl ?_); (try (refine gate_guard (by rfl) ?_; dsimp only)); refine boxK HB (N := 53) (cs := #[.slice none 0 0]) (t := 26) (h := ?_); clear HB; intro gb14 hg w661 BK14 GW14 GE14 HB hb; replace HO426 := ko HO426 hb; obtain ⟨NB3_14, NB14_3, NB4_14, NB14_4, NB5_14, NB14_5, NB6_14, NB14_6, NB7_14, NB14_7, NB8_14, NB14_8⟩ := nv6 hg BK3 BK4 BK5 BK6 BK7 BK8; refine mv6 hb BK3 BK4 BK5 BK6 BK7 BK8 ?_; clear BK3 BK4 BK5 BK6 BK7 BK8; intro BK3 BK4 BK5 BK6 BK7 BK8; clear hb hg; obtain ⟨Ao662, co662, eo662⟩ := Kd.R_slice HO426.out; subst eo662; have hnb663 := up6 NB14_3 NB14_4 NB14_5 NB14_6 NB14_7 NB14_8; obtain ⟨hcz669_0, hfz669_0⟩ := kc1 BK14; obtain ⟨hcz670_0, hfz670_0⟩ := kc1 BK3; obtain ⟨hcz671_0, hcz671_1, hcz671_2, hfz671_0, hfz671_1, hfz671_2⟩ := kc3 BK4) | ((with_reducible refine gate_callee (f := 19) rfl ?_); refine goesL_ (some 285) rfl rfl Try.func19 (by kernel_rfl) rfl #[.agg #[.slice A4_0 l4_0.length c4_0], .agg #[.int .i64 a5_0, .int .i64 a5_1, .int .i64 a5_2]] rfl argR ?_; (with_reducible refine (spec_AddClue.calls kj479 _ _ l4_0 a5_0 a5_1 a5_2 t429 t432 _ ?side1 ?side2 A643.out).mono ?_); (case side1 => exact Kd.C_below HR4_0.out (bw HB)); (case side2 => exact HC4_0.out); rintro e w672 ⟨v430, rfl, ho0, hb⟩; refine ⟨_, rfl, ?_⟩; have HO431 := Aside0.mk (Kd.R_lower (Kd.R_newB (Kd.R_newB (Kd.R_newB (Kd.R_new' ho0 (Kd.R_lt (by (with_reducible repeat (first | apply Kd.R_alloc | apply Kd.R_drewN | apply Kd.R_drew)); exact (Kd.R_mono (Kd.R_far (p := ⟨gb14, 0, none⟩) (Kd.R_types HO426.out BK14.out (by decide)) (fun _ hk => hk.2) (.slice Ao662 t424.length co662)) (fun _ h_ => h_.1))))) (bf BK4 NB4_14)) (bf BK6 NB6_14)) (bf BK8 NB8_14)) (below_size (bw HB))); replace HO426 := Aside0.mk (Kd.R_elder' (by (with_reducible repeat (first | apply Kd.R_alloc | apply Kd.R_drewN | apply Kd.R_drew)); exact (Kd.R_mono (Kd.R_far (p := ⟨gb14, 0, none⟩) (Kd.R_types HO426.out BK14.out (by decide)) (fun _ hk => hk.2) (.slice Ao662 t424.length co662)) (fun _ h_ => h_.1))) (Kd.R_base ho0) hb); replace BK3 := Aside0.mk (blk_below (bf BK3 NB3_14) hb); replace BK4 := Aside0.mk (blk_below (bf BK4 NB4_14) hb); replace BK5 := Aside0.mk (blk_below (bf BK5 NB5_14) hb); replace BK6 := Aside0.mk (blk_below (bf BK6 NB6_14) hb); replace BK7 := Aside0.mk (blk_below (bf BK7 NB7_14) hb); replace BK8 := Aside0.mk (blk_below (bf BK8 NB8_14) hb); replace BK14 := Aside0.mk (blk_below (g := gb14) (o := .cells #[.slice Ao662 t424.length co662] 26 (0, 0)) (by (with_reducible repeat (first | refine blk_drewN ?_ _ | refine blk_drew ?_ | refine blk_alloc ?_ _)); refine blk_put (cs := #[.slice none 0 0]) ?_ 0 _ rfl; (with_reducible repeat (first | refine blk_drewN ?_ _ | refine blk_drew ?_ | refine blk_alloc ?_ _)); exact BK14.out) hb); replace HB := kw HB hb; (try clear hb); (try clear hk); (try clear ho0)) | ((with_reducible refine gate_dst (N := 55) rfl ?_); (try (refine gate_guard (by rfl) ?_; dsimp only)); refine boxK HB (N := 55) (cs := #[.slice none 0 0]) (t := 26) (h := ?_); clear HB; intro gb15 hg w673 BK15 GW15 GE15 HB hb; replace HO426 := ko HO426 hb; replace HO431 := ko HO431 hb; obtain ⟨NB3_15, NB15_3, NB4_15, NB15_4, NB5_15, NB15_5, NB6_15, NB15_6, NB7_15, NB15_7, NB8_15, NB15_8, NB14_15, NB15_14⟩ := nv7 hg BK3 BK4 BK5 BK6 BK7 BK8 BK14; refine mv7 hb BK3 BK4 BK5 BK6 BK7 BK8 BK14 ?_; clear BK3 BK4 BK5 BK6 BK7 BK8 BK14; intro BK3 BK4 BK5 BK6 BK7 BK8 BK14; clear hb hg; obtain ⟨Ao674, co674, eo674⟩ := Kd.R_slice HO431.out; subst eo674; have hnb675 := up7 NB15_3 NB15_4 NB15_5 NB15_6 NB15_7 NB15_8 NB15_14; obtain ⟨hcz682_0, hfz682_0⟩ := kc1 BK15; have hnb683 := up3 NB5_6 NB5_7 NB5_8; obtain ⟨hcz686_0, hfz686_0⟩ := kc1 BK5) | ((with_reducible refine gate_callee (f := 20) rfl ?_); refine goesL_ (some 291) rfl rfl Try.func20 (by kernel_rfl) rfl #[.agg #[.slice A6_0 l6_0.length c6_0], .int .i64 a7] rfl argR ?_; (with_reducible refine (impl_DropClue.calls kj479 _ _ l6_0 a7 t434 t437 _ ?side1 ?side2 A644.out).mono ?_); (case side1 => exact Kd.C_below HR6_0.out (bw HB)); (case side2 => exact HC6_0.out); rintro e w687 ⟨v435, rfl, ho0, hb⟩; refine ⟨_, rfl, ?_⟩; have HO436 := Aside0.mk (Kd.R_lower (Kd.R_newB (Kd.R_newB (Kd.R_newB (Kd.R_new' (Kd.R_new' ho0 (Kd.R_lt (by (with_reducible repeat (first | apply Kd.R_alloc | apply Kd.R_drewN | apply Kd.R_drew)); exact (Kd.R_mono (Kd.R_far (p := ⟨gb15, 0, none⟩) (Kd.R_types HO426.out BK15.out (by decide)) (fun _ hk => hk.2) (.slice Ao674 t429.length co674)) (fun _ h_ => h_.1))))) (Kd.R_lt (by (with_reducible repeat (first | apply Kd.R_alloc | apply Kd.R_drewN | apply Kd.R_drew)); exact (Kd.R_mono (Kd.R_far (p := ⟨gb15, 0, none⟩) (Kd.R_types HO431.out BK15.out (by decide)) (fun _ hk => hk.2) (.slice Ao674 t429.length co674)) (fun _ h_ => h_.1))))) (bf BK4 NB4_15)) (bf BK6 NB6_15)) (bf BK8 NB8_15)) (below_size (bw HB))); replace HO426 := Aside0.mk (Kd.R_elder' (by (with_reducible repeat (first | apply Kd.R_alloc | apply Kd.R_drewN | apply Kd.R_drew)); exact (Kd.R_mono (Kd.R_far (p := ⟨gb15, 0, none⟩) (Kd.R_types HO426.out BK15.out (by decide)) (fun _ hk => hk.2) (.slice Ao674 t429.length co674)) (fun _ h_ => h_.1))) (Kd.R_base ho0) hb); replace HO431 := Aside0.mk (Kd.R_elder' (by (with_reducible repeat (first | apply Kd.R_alloc | apply Kd.R_drewN | apply Kd.R_drew)); exact (Kd.R_mono (Kd.R_far (p := ⟨gb15, 0, none⟩) (Kd.R_types HO431.out BK15.out (by decide)) (fun _ hk => hk.2) (.slice Ao674 t429.length co674)) (fun _ h_ => h_.1))) (Kd.R_base ho0) hb); replace BK3 := Aside0.mk (blk_below (bf BK3 NB3_15) hb); replace BK4 := Aside0.mk (blk_below (bf BK4 NB4_15) hb); replace BK5 := Aside0.mk (blk_below (bf BK5 NB5_15) hb); replace BK6 := Aside0.mk (blk_below (bf BK6 NB6_15) hb); replace BK7 := Aside0.mk (blk_below (bf BK7 NB7_15) hb); replace BK8 := Aside0.mk (blk_below (bf BK8 NB8_15) hb); replace BK14 := Aside0.mk (blk_below (bf BK14 NB14_15) hb); replace BK15 := Aside0.mk (blk_below (g := gb15) (o := .cells #[.slice Ao674 t429.length co674] 26 (0, 0)) (by (with_reducible repeat (first | refine blk_drewN ?_ _ | refine blk_drew ?_ | refine blk_alloc ?_ _)); refine blk_put (cs := #[.slice none 0 0]) ?_ 0 _ rfl; (with_reducible repeat (first | refine blk_drewN ?_ _ | refine blk_drew ?_ | refine blk_alloc ?_ _)); exact BK15.out) hb); replace HB := kw HB hb; (try clear hb); (try clear hk); (try clear ho0)) | ((with_reducible refine gate_dst (N := 57) rfl ?_); (try (refine gate_guard (by rfl) ?_; dsimp only)); refine boxK HB (N := 57) (cs := #[.slice none 0 0]) (t := 26) (h := ?_); clear HB; intro gb16 hg w688 BK16 GW16 GE16 HB hb; replace HO426 := ko HO426 hb; replace HO431 := ko HO431 hb; replace HO436 := ko HO436 hb; obtain ⟨NB3_16, NB16_3, NB4_16, NB16_4, NB5_16, NB16_5, NB6_16, NB16_6, NB7_16, NB16_7, NB8_16, NB16_8, NB14_16, NB16_14, NB15_16, NB16_15⟩ := nv8 hg BK3 BK4 BK5 BK6 BK7 BK8 BK14 BK15; refine mv8 hb BK3 BK4 BK5 BK6 BK7 BK8 BK14 BK15 ?_; clear BK3 BK4 BK5 BK6 BK7 BK8 BK14 BK15; intro BK3 BK4 BK5 BK6 BK7 BK8 BK14 BK15; clear hb hg; obtain ⟨Ao689, co689, eo689⟩ := Kd.R_slice HO436.out; subst eo689; have hnb690 := up8 NB16_3 NB16_4 NB16_5 NB16_6 NB16_7 NB16_8 NB16_14 NB16_15; obtain ⟨hcz698_0, hfz698_0⟩ := kc1 BK16; obtain ⟨hcz699_0, hfz699_0⟩ := kc1 BK5) | ((with_reducible refine gate_callee (f := 21) rfl ?_); refine goesL_ (some 297) rfl rfl Try.func21 (by kernel_rfl) rfl #[.agg #[.slice A6_0 l6_0.length c6_0], .int .i64 a7] rfl argR ?_; (with_reducible refine (spec_DropClue.calls kj479 _ _ l6_0 a7 t439 t442 _ ?side1 ?side2 A645.out).mono ?_); (case side1 => exact Kd.C_below HR6_0.out (bw HB)); (case side2 => exact HC6_0.out); rintro e w700 ⟨v440, rfl, ho0, hb⟩; refine ⟨_, rfl, ?_⟩; have HO441 := Aside0.mk (Kd.R_lower (Kd.R_newB (Kd.R_newB (Kd.R_newB (Kd.R_new' (Kd.R_new' (Kd.R_new' ho0 (Kd.R_lt (by (with_reducible repeat (first | apply Kd.R_alloc | apply Kd.R_drewN | apply Kd.R_drew)); exact (Kd.R_mono (Kd.R_far (p := ⟨gb16, 0, none⟩) (Kd.R_types HO426.out BK16.out (by decide)) (fun _ hk => hk.2) (.slice Ao689 t434.length co689)) (fun _ h_ => h_.1))))) (Kd.R_lt (by (with_reducible repeat (first | apply Kd.R_alloc | apply Kd.R_drewN | apply Kd.R_drew)); exact (Kd.R_mono (Kd.R_far (p := ⟨gb16, 0, none⟩) (Kd.R_types HO431.out BK16.out (by decide)) (fun _ hk => hk.2) (.slice Ao689 t434.length co689)) (fun _ h_ => h_.1))))) (Kd.R_lt (by (with_reducible repeat (first | apply Kd.R_alloc | apply Kd.R_drewN | apply Kd.R_drew)); exact (Kd.R_mono (Kd.R_far (p := ⟨gb16, 0, none⟩) (Kd.R_types HO436.out BK16.out (by decide)) (fun _ hk => hk.2) (.slice Ao689 t434.length co689)) (fun _ h_ => h_.1))))) (bf BK4 NB4_16)) (bf BK6 NB6_16)) (bf BK8 NB8_16)) (below_size (bw HB))); replace HO426 := Aside0.mk (Kd.R_elder' (by (with_reducible repeat (first | apply Kd.R_alloc | apply Kd.R_drewN | apply Kd.R_drew)); exact (Kd.R_mono (Kd.R_far (p := ⟨gb16, 0, none⟩) (Kd.R_types HO426.out BK16.out (by decide)) (fun _ hk => hk.2) (.slice Ao689 t434.length co689)) (fun _ h_ => h_.1))) (Kd.R_base ho0) hb); replace HO431 := Aside0.mk (Kd.R_elder' (by (with_reducible repeat (first | apply Kd.R_alloc | apply Kd.R_drewN | apply Kd.R_drew)); exact (Kd.R_mono (Kd.R_far (p := ⟨gb16, 0, none⟩) (Kd.R_types HO431.out BK16.out (by decide)) (fun _ hk => hk.2) (.slice Ao689 t434.length co689)) (fun _ h_ => h_.1))) (Kd.R_base ho0) hb); replace HO436 := Aside0.mk (Kd.R_elder' (by (with_reducible repeat (first | apply Kd.R_alloc | apply Kd.R_drewN | apply Kd.R_drew)); exact (Kd.R_mono (Kd.R_far (p := ⟨gb16, 0, none⟩) (Kd.R_types HO436.out BK16.out (by decide)) (fun _ hk => hk.2) (.slice Ao689 t434.length co689)) (fun _ h_ => h_.1))) (Kd.R_base ho0) hb); replace BK3 := Aside0.mk (blk_below (bf BK3 NB3_16) hb); replace BK4 := Aside0.mk (blk_below (bf BK4 NB4_16) hb); replace BK5 := Aside0.mk (blk_below (bf BK5 NB5_16) hb); replace BK6 := Aside0.mk (blk_below (bf BK6 NB6_16) hb); replace BK7 := Aside0.mk (blk_below (bf BK7 NB7_16) hb); replace BK8 := Aside0.mk (blk_below (bf BK8 NB8_16) hb); replace BK14 := Aside0.mk (blk_below (bf BK14 NB14_16) hb); replace BK15 := Aside0.mk (blk_below (bf BK15 NB15_16) hb); replace BK16 := Aside0.mk (blk_below (g := gb16) (o := .cells #[.slice Ao689 t434.length co689] 26 (0, 0)) (by (with_reducible repeat (first | refine blk_drewN ?_ _ | refine blk_drew ?_ | refine blk_alloc ?_ _)); refine blk_put (cs := #[.slice none 0 0]) ?_ 0 _ rfl; (with_reducible repeat (first | refine blk_drewN ?_ _ | refine blk_drew ?_ | refine blk_alloc ?_ _)); exact BK16.out) hb); replace HB := kw HB hb; (try clear hb); (try clear hk); (try clear ho0)) | ((with_reducible refine gate_dst (N := 59) rfl ?_); (try (refine gate_guard (by rfl) ?_; dsimp only)); refine boxK HB (N := 59) (cs := #[.slice none 0 0]) (t := 26) (h := ?_); clear HB; intro gb17 hg w701 BK17 GW17 GE17 HB hb; replace HO426 := ko HO426 hb; replace HO431 := ko HO431 hb; replace HO436 := ko HO436 hb; replace HO441 := ko HO441 hb; obtain ⟨NB3_17, NB17_3, NB4_17, NB17_4, NB5_17, NB17_5, NB6_17, NB17_6, NB7_17, NB17_7, NB8_17, NB17_8, NB14_17, NB17_14, NB15_17, NB17_15⟩ := nv8 hg BK3 BK4 BK5 BK6 BK7 BK8 BK14 BK15; refine mv8 hb BK3 BK4 BK5 BK6 BK7 BK8 BK14 BK15 ?_; clear BK3 BK4 BK5 BK6 BK7 BK8 BK14 BK15; intro BK3 BK4 BK5 BK6 BK7 BK8 BK14 BK15; obtain ⟨NB16_17, NB17_16⟩ := nv1 hg BK16; replace BK16 := kb BK16 hb; clear hb hg; obtain ⟨Ao702, co702, eo702⟩ := Kd.R_slice HO441.out; subst eo702; have hnb703 := up8 NB17_3 NB17_4 NB17_5 NB17_6 NB17_7 NB17_8 NB17_14 NB17_15; have hnb711 := up1 NB17_16; obtain ⟨hcz712_0, hfz712_0⟩ := kc1 BK17; have hnb713 := up2 NB6_7 NB6_8; obtain ⟨hcz715_0, hcz715_1, hcz715_2, hfz715_0, hfz715_1, hfz715_2⟩ := kc3 BK6; have hnb716 := up1 NB7_8; obtain ⟨hcz717_0, hcz717_1, hfz717_0, hfz717_1⟩ := kc2 BK7) | ((with_reducible refine gate_callee (f := 9) rfl ?_); refine goesL_ (some 303) rfl rfl Try.func9 (by kernel_rfl) rfl #[.agg #[.int .i64 a8_0, .int .i64 a8_1, .int .i64 a8_2], .agg #[.int .i64 a9_0, .int .i64 a9_1]] rfl argR ?_; (with_reducible refine (impl_DoesFit.calls a8_0 a8_1 a8_2 a9_0 a9_1 t444 t445 _ A646.out).mono ?_); rintro e w718 ⟨rfl, hb⟩; refine ⟨_, rfl, ?_⟩; replace HO426 := Aside0.mk (Kd.R_below (by (with_reducible repeat (first | apply Kd.R_alloc | apply Kd.R_drewN | apply Kd.R_drew)); exact (Kd.R_mono (Kd.R_far (p := ⟨gb17, 0, none⟩) (Kd.R_types HO426.out BK17.out (by decide)) (fun _ hk => hk.2) (.slice Ao702 t439.length co702)) (fun _ h_ => h_.1))) hb); replace HO431 := Aside0.mk (Kd.R_below (by (with_reducible repeat (first | apply Kd.R_alloc | apply Kd.R_drewN | apply Kd.R_drew)); exact (Kd.R_mono (Kd.R_far (p := ⟨gb17, 0, none⟩) (Kd.R_types HO431.out BK17.out (by decide)) (fun _ hk => hk.2) (.slice Ao702 t439.length co702)) (fun _ h_ => h_.1))) hb); replace HO436 := Aside0.mk (Kd.R_below (by (with_reducible repeat (first | apply Kd.R_alloc | apply Kd.R_drewN | apply Kd.R_drew)); exact (Kd.R_mono (Kd.R_far (p := ⟨gb17, 0, none⟩) (Kd.R_types HO436.out BK17.out (by decide)) (fun _ hk => hk.2) (.slice Ao702 t439.length co702)) (fun _ h_ => h_.1))) hb); replace HO441 := Aside0.mk (Kd.R_below (by (with_reducible repeat (first | apply Kd.R_alloc | apply Kd.R_drewN | apply Kd.R_drew)); exact (Kd.R_mono (Kd.R_far (p := ⟨gb17, 0, none⟩) (Kd.R_types HO441.out BK17.out (by decide)) (fun _ hk => hk.2) (.slice Ao702 t439.length co702)) (fun _ h_ => h_.1))) hb); replace BK3 := Aside0.mk (blk_below (bf BK3 NB3_17) hb); replace BK4 := Aside0.mk (blk_below (bf BK4 NB4_17) hb); replace BK5 := Aside0.mk (blk_below (bf BK5 NB5_17) hb); replace BK6 := Aside0.mk (blk_below (bf BK6 NB6_17) hb); replace BK7 := Aside0.mk (blk_below (bf BK7 NB7_17) hb); replace BK8 := Aside0.mk (blk_below (bf BK8 NB8_17) hb); replace BK14 := Aside0.mk (blk_below (bf BK14 NB14_17) hb); replace BK15 := Aside0.mk (blk_below (bf BK15 NB15_17) hb); replace BK16 := Aside0.mk (blk_below (bf BK16 NB16_17) hb); replace BK17 := Aside0.mk (blk_below (g := gb17) (o := .cells #[.slice Ao702 t439.length co702] 26 (0, 0)) (by (with_reducible repeat (first | refine blk_drewN ?_ _ | refine blk_drew ?_ | refine blk_alloc ?_ _)); refine blk_put (cs := #[.slice none 0 0]) ?_ 0 _ rfl; (with_reducible repeat (first | refine blk_drewN ?_ _ | refine blk_drew ?_ | refine blk_alloc ?_ _)); exact BK17.out) hb); replace HB := kw HB hb; (try clear hb); (try clear hk); obtain ⟨hcz719_0, hcz719_1, hcz719_2, hfz719_0, hfz719_1, hfz719_2⟩ := kc3 BK6; obtain ⟨hcz720_0, hcz720_1, hfz720_0, hfz720_1⟩ := kc2 BK7) | ((with_reducible refine gate_callee (f := 22) rfl ?_); refine goesL_ (some 309) rfl rfl Try.func22 (by kernel_rfl) rfl #[.agg #[.int .i64 a8_0, .int .i64 a8_1, .int .i64 a8_2], .agg #[.int .i64 a9_0, .int .i64 a9_1]] rfl argR ?_; (with_reducible refine (spec_DoesFit.calls a8_0 a8_1 a8_2 a9_0 a9_1 t446 t447 _ A647.out).mono ?_); rintro e w721 ⟨rfl, hb⟩; refine ⟨_, rfl, ?_⟩; replace HO426 := ko HO426 hb; replace HO431 := ko HO431 hb; replace HO436 := ko HO436 hb; replace HO441 := ko HO441 hb; refine mv8 hb BK3 BK4 BK5 BK6 BK7 BK8 BK14 BK15 ?_; clear BK3 BK4 BK5 BK6 BK7 BK8 BK14 BK15; intro BK3 BK4 BK5 BK6 BK7 BK8 BK14 BK15; refine mv2 hb BK16 BK17 ?_; clear BK16 BK17; intro BK16 BK17; replace HB := kw HB hb; (try clear hb); (try clear hk)))
  (try simp only [Act.put, List.setIfInBounds_toArray, List.set_cons_zero, List.set_cons_succ])
  go_cut [360, 276, 277, 278, 279, 280, 281, 282, 283, 284, 285, 286, 287, 288, 289, 290, 291, 292, 293, 294, 295, 296, 297, 298, 299, 300, 301, 302, 303, 304, 305, 306, 307, 308, 309, 310, 311] from 1 to 0 (fun v360 _ _ _ _ _ _ _ _ _ _ _ _ _ _ _ _ _ _ _ _ _ _ _ _ _ _ _ _ _ _ _ _ _ _ _ _ wc => ∃ (kq : Nat) (x360_647 : Bool), v360 = .bool x360_647 ∧ Aside0 (laws_FnSnailsHiddenOfAll.j6 kq a7 t427 t437 x360_647 l4_0 a5_0 a5_1 a5_2 l6_0 t424 t434 = some r) ∧ Aside0 (kq ≤ kj479) ∧ Aside0 (Kd.R k28 28 wc w.heap.size (fun k_ => some k_ ≠ ((.slice Ao689 t434.length co689) : Value).ownBlock ∧ k_ ≠ gb4) (.slice Ao662 t424.length co662) t424) ∧ Aside0 (Kd.R k28 28 wc w.heap.size (fun k_ => some k_ ≠ ((.slice Ao662 t424.length co662) : Value).ownBlock ∧ k_ ≠ gb4) (.slice Ao689 t434.length co689) t434) ∧ Aside0 (wc.heap[gb3]? = some (.cells #[(.slice A4_0 l4_0.length c4_0)] 26 (0, 0))) ∧ Aside0 (wc.heap[gb4]? = some (.cells #[.int .i64 a5_0, .int .i64 a5_1, .int .i64 a5_2] 28 (0, 0))) ∧ Aside0 (wc.heap[gb5]? = some (.cells #[(.slice A6_0 l6_0.length c6_0)] 26 (0, 0))) ∧ Aside0 (wc.heap[gb14]? = some (.cells #[(.slice Ao662 t424.length co662)] 26 (0, 0))) ∧ Aside0 (wc.heap[gb16]? = some (.cells #[(.slice Ao689 t434.length co689)] 26 (0, 0))) ∧ Aside0 (Below w.heap.size w wc))
  case first =>
   have H := HC648.out
   clear HC648
   have H' := Aside0.mk H
   clear H
   try go_wp2
   replace HO426 := od HO426
   replace HO431 := od HO431
   replace HO436 := od HO436
   replace HO441 := od HO441
   refine md8 BK3 BK4 BK5 BK6 BK7 BK8 BK14 BK15 ?_
   clear BK3 BK4 BK5 BK6 BK7 BK8 BK14 BK15
   intro BK3 BK4 BK5 BK6 BK7 BK8 BK14 BK15
   refine md2 BK16 BK17 ?_
   clear BK16 BK17
   intro BK16 BK17
   replace HB := Aside0.mk (below_drew1 HB.out)
   have H := H'.out
   clear H'
   replace H := iteC H; rcases H with ⟨c722, H⟩ | ⟨c722, H⟩
   ·
    have c722b0 : (t427 != t432) = true := c722
    (try (have c722b1 : decide (t427 = t432) = false := by simpa using c722))
    (try (have c722b2 : (t427 == t432) = false := by simpa using c722))
    (try (have c722b3 : ¬ (t427 = t432) := by simpa using c722))
    clear c722
    (first | rw [c722b0] | (simp only [i64_w, i32_w]; rw [c722b0]) | skip)
    have H' := Aside0.mk H
    clear H
    refine startK 49 (S := fun w' => True) (ds := []) laws_FnSnailsHiddenOfAll.tab37 laws_FnSnailsHiddenOfAll.bits37 (hS := trivial) (h := fun hHeld HT_ HW_ => ?_)
    generalize w721.drew = w723 at HO426 HO431 HO436 HO441 BK3 BK4 BK5 BK6 BK7 BK8 BK14 BK15 BK16 BK17 HB hHeld ⊢
    refine pureK HT_ 0 (some 312) ?_
    refine pureK HT_ 1 (some 313) ?_
    refine pureK HT_ 2 (some 314) ?_
    refine pureK HT_ 3 (some 315) ?_
    refine offK HT_ 4 (some 316) ?_
    refine offK HT_ 5 (some 317) ?_
    refine offK HT_ 6 (some 318) ?_
    refine offK HT_ 7 (some 319) ?_
    refine offK HT_ 8 (some 320) ?_
    refine offK HT_ 9 (some 321) ?_
    refine pureK HT_ 10 (some 322) ?_
    refine pureK HT_ 11 (some 323) ?_
    refine offK HT_ 12 (some 324) ?_
    refine offK HT_ 13 (some 325) ?_
    refine offK HT_ 14 (some 326) ?_
    refine pureK HT_ 15 (some 327) ?_
    refine pureK HT_ 16 (some 328) ?_
    refine offK HT_ 17 (some 329) ?_
    refine offK HT_ 18 (some 330) ?_
    refine offK HT_ 19 (some 331) ?_
    refine offK HT_ 20 (some 332) ?_
    refine offK HT_ 21 (some 333) ?_
    refine offK HT_ 22 (some 334) ?_
    refine pureK HT_ 23 (some 335) ?_
    refine pureK HT_ 24 (some 336) ?_
    refine offK HT_ 25 (some 337) ?_
    refine offK HT_ 26 (some 338) ?_
    refine offK HT_ 27 (some 339) ?_
    refine pureK HT_ 28 (some 340) ?_
    refine pureK HT_ 29 (some 341) ?_
    refine offK HT_ 30 (some 342) ?_
    refine offK HT_ 31 (some 343) ?_
    refine offK HT_ 32 (some 344) ?_
    refine pureK HT_ 33 (some 345) ?_
    refine pureK HT_ 34 (some 346) ?_
    refine offK HT_ 35 (some 347) ?_
    refine offK HT_ 36 (some 348) ?_
    refine offK HT_ 37 (some 349) ?_
    refine offK HT_ 38 (some 350) ?_
    refine offK HT_ 39 (some 351) ?_
    refine pureK HT_ 40 (some 352) ?_
    refine pureK HT_ 41 (some 353) ?_
    refine offK HT_ 42 (some 354) ?_
    refine offK HT_ 43 (some 355) ?_
    refine offK HT_ 44 (some 356) ?_
    refine offK HT_ 45 (some 357) ?_
    refine offK HT_ 46 (some 358) ?_
    refine offK HT_ 47 (some 359) ?_
    refine pureK HT_ 48 (some 360) ?_
    refine done_ (done_of HT_.out (by kernel_rfl)) ?_
    try go_wp2
    go_meet
    case rel => exact ⟨_, (true), (by first | rfl | (simp; done) | (simp [*]; done)), H', ⟨by have := HJ13.out; have := HJ78.out; have := HJ389.out; have := HJ479.out; first | omega | exact Nat.le_refl _⟩, ⟨by (with_reducible repeat (first | apply Kd.R_alloc | apply Kd.R_drewN | apply Kd.R_drew)); exact Kd.R_mono HO426.out (fun _ hk => ⟨hk.1.2, hk.1.1.1.1.1.2⟩)⟩, ⟨by (with_reducible repeat (first | apply Kd.R_alloc | apply Kd.R_drewN | apply Kd.R_drew)); exact Kd.R_mono HO436.out (fun _ hk => ⟨hk.1.1.1.1.1.2, hk.1.1.1.2⟩)⟩, ⟨bk BK3⟩, ⟨bk BK4⟩, ⟨bk BK5⟩, ⟨bk BK14⟩, ⟨bk BK16⟩, ⟨bw HB⟩⟩
   have c722b0 : (t427 != t432) = false := by simpa using c722
   (try (have c722b1 : decide (t427 = t432) = true := by simpa using c722))
   (try (have c722b2 : (t427 == t432) = true := by simpa using c722))
   clear c722
   (first | rw [c722b0] | (simp only [i64_w, i32_w]; rw [c722b0]) | skip)
   replace H := bindS H; obtain ⟨t448, A724, H⟩ := H
   have H' := Aside0.mk H
   clear H
   have H := H'.out
   clear H'
   replace H := iteB H; rcases H with ⟨rfl, H⟩ | ⟨rfl, H⟩
   rotate_left
   ·
    have H' := Aside0.mk H
    clear H
    refine startK 49 (S := fun w' => w'.cell? ⟨gb14, 0, none⟩ = some (.slice Ao662 t424.length co662) ∧ w'.cell? ⟨gb15, 0, none⟩ = some (.slice Ao674 t429.length co674)) (ds := []) laws_FnSnailsHiddenOfAll.tab37 laws_FnSnailsHiddenOfAll.bits37 (hS := ⟨bc BK14 0, bc BK15 0⟩) (h := fun hHeld HT_ HW_ => ?_)
    generalize w721.drew = w750 at HO426 HO431 HO436 HO441 BK3 BK4 BK5 BK6 BK7 BK8 BK14 BK15 BK16 BK17 HB hHeld ⊢
    refine pureK HT_ 0 (some 312) ?_
    refine pureK HT_ 1 (some 313) ?_
    refine pureK HT_ 2 (some 314) ?_
    refine pureK HT_ 3 (some 315) ?_
    refine pureK HT_ 4 (some 316) ?_
    refine pureK HT_ 6 (some 318) ?_
    refine takeK HT_ HW_ hHeld 5 (some 317) ?_
    refine takeK HT_ HW_ hHeld 7 (some 319) ?_
    refine oneK HT_ 8 (some 320) (fun K hK => ?_)
    refine goes_ Try.func7 (by kernel_rfl) rfl #[.slice Ao662 t424.length co662, .slice Ao674 t429.length co674] (by rfl) rfl rfl argR ?_
    with_reducible refine (laws_qClues.calls kj479 _ _ t424 _ _ t429 false _ ?side1 ?side2 ?side3 ?side4 A724.out).mono ?_
    (case side1 => exact rs HO426)
    (case side2 => exact rl HO426)
    (case side3 => exact rs HO431)
    (case side4 => exact rl HO431)
    rintro e w' ⟨rfl, ⟨nd, rfl⟩⟩
    refine ⟨_, rfl, ?_⟩
    refine hK.out _ _ ⟨bc BK14 0, bc BK15 0⟩ (fun hHeld => ?_)
    clear hK K
    refine normK (N := some 320) (h := ?_)
    refine pureK HT_ 9 (some 321) ?_
    refine pureK HT_ 10 (some 322) ?_
    refine pureK HT_ 11 (some 323) ?_
    refine offK HT_ 12 (some 324) ?_
    refine offK HT_ 13 (some 325) ?_
    refine offK HT_ 14 (some 326) ?_
    refine pureK HT_ 15 (some 327) ?_
    refine pureK HT_ 16 (some 328) ?_
    refine offK HT_ 17 (some 329) ?_
    refine offK HT_ 18 (some 330) ?_
    refine offK HT_ 19 (some 331) ?_
    refine offK HT_ 20 (some 332) ?_
    refine offK HT_ 21 (some 333) ?_
    refine offK HT_ 22 (some 334) ?_
    refine pureK HT_ 23 (some 335) ?_
    refine pureK HT_ 24 (some 336) ?_
    refine offK HT_ 25 (some 337) ?_
    refine offK HT_ 26 (some 338) ?_
    refine offK HT_ 27 (some 339) ?_
    refine pureK HT_ 28 (some 340) ?_
    refine pureK HT_ 29 (some 341) ?_
    refine offK HT_ 30 (some 342) ?_
    refine offK HT_ 31 (some 343) ?_
    refine offK HT_ 32 (some 344) ?_
    refine pureK HT_ 33 (some 345) ?_
    refine pureK HT_ 34 (some 346) ?_
    refine offK HT_ 35 (some 347) ?_
    refine offK HT_ 36 (some 348) ?_
    refine offK HT_ 37 (some 349) ?_
    refine offK HT_ 38 (some 350) ?_
    refine offK HT_ 39 (some 351) ?_
    refine pureK HT_ 40 (some 352) ?_
    refine pureK HT_ 41 (some 353) ?_
    refine offK HT_ 42 (some 354) ?_
    refine offK HT_ 43 (some 355) ?_
    refine offK HT_ 44 (some 356) ?_
    refine offK HT_ 45 (some 357) ?_
    refine offK HT_ 46 (some 358) ?_
    refine offK HT_ 47 (some 359) ?_
    refine pureK HT_ 48 (some 360) ?_
    refine done_ (done_of HT_.out (by kernel_rfl)) ?_
    try go_wp2
    go_meet
    case rel => exact ⟨_, (true), (by first | rfl | (simp; done) | (simp [*]; done)), H', ⟨by have := HJ13.out; have := HJ78.out; have := HJ389.out; have := HJ479.out; first | omega | exact Nat.le_refl _⟩, ⟨by (with_reducible repeat (first | apply Kd.R_alloc | apply Kd.R_drewN | apply Kd.R_drew)); exact Kd.R_mono HO426.out (fun _ hk => ⟨hk.1.2, hk.1.1.1.1.1.2⟩)⟩, ⟨by (with_reducible repeat (first | apply Kd.R_alloc | apply Kd.R_drewN | apply Kd.R_drew)); exact Kd.R_mono HO436.out (fun _ hk => ⟨hk.1.1.1.1.1.2, hk.1.1.1.2⟩)⟩, ⟨bk BK3⟩, ⟨bk BK4⟩, ⟨bk BK5⟩, ⟨bk BK14⟩, ⟨bk BK16⟩, ⟨bw HB⟩⟩
   have H' := Aside0.mk H
   clear H
   have H := H'.out
   clear H'
   replace H := iteC H; rcases H with ⟨c726, H⟩ | ⟨c726, H⟩
   ·
    have c726b0 : (t437 != t442) = true := c726
    (try (have c726b1 : decide (t437 = t442) = false := by simpa using c726))
    (try (have c726b2 : (t437 == t442) = false := by simpa using c726))
    (try (have c726b3 : ¬ (t437 = t442) := by simpa using c726))
    clear c726
    have H' := Aside0.mk H
    clear H
    refine startK 49 (S := fun w' => w'.cell? ⟨gb14, 0, none⟩ = some (.slice Ao662 t424.length co662) ∧ w'.cell? ⟨gb15, 0, none⟩ = some (.slice Ao674 t429.length co674)) (ds := []) laws_FnSnailsHiddenOfAll.tab37 laws_FnSnailsHiddenOfAll.bits37 (hS := ⟨bc BK14 0, bc BK15 0⟩) (h := fun hHeld HT_ HW_ => ?_)
    generalize w721.drew = w727 at HO426 HO431 HO436 HO441 BK3 BK4 BK5 BK6 BK7 BK8 BK14 BK15 BK16 BK17 HB hHeld ⊢
    refine pureK HT_ 0 (some 312) ?_
    refine pureK HT_ 1 (some 313) ?_
    refine pureK HT_ 2 (some 314) ?_
    refine pureK HT_ 3 (some 315) ?_
    refine pureK HT_ 4 (some 316) ?_
    refine pureK HT_ 6 (some 318) ?_
    refine takeK HT_ HW_ hHeld 5 (some 317) ?_
    refine takeK HT_ HW_ hHeld 7 (some 319) ?_
    refine oneK HT_ 8 (some 320) (fun K hK => ?_)
    refine goes_ Try.func7 (by kernel_rfl) rfl #[.slice Ao662 t424.length co662, .slice Ao674 t429.length co674] (by rfl) rfl rfl argR ?_
    with_reducible refine (laws_qClues.calls kj479 _ _ t424 _ _ t429 true _ ?side1 ?side2 ?side3 ?side4 A724.out).mono ?_
    (case side1 => exact rs HO426)
    (case side2 => exact rl HO426)
    (case side3 => exact rs HO431)
    (case side4 => exact rl HO431)
    rintro e w' ⟨rfl, ⟨nd, rfl⟩⟩
    refine ⟨_, rfl, ?_⟩
    refine hK.out _ _ ⟨bc BK14 0, bc BK15 0⟩ (fun hHeld => ?_)
    clear hK K
    refine normK (N := some 320) (h := ?_)
    refine pureK HT_ 9 (some 321) ?_
    refine pureK HT_ 10 (some 322) ?_
    refine pureK HT_ 11 (some 323) ?_
    refine pureK HT_ 12 (some 324) ?_
    refine pureK HT_ 13 (some 325) ?_
    refine pureK HT_ 14 (some 326) ?_
    refine pureK HT_ 15 (some 327) ?_
    refine pureK HT_ 16 (some 328) ?_
    refine offK HT_ 17 (some 329) ?_
    refine offK HT_ 18 (some 330) ?_
    refine offK HT_ 19 (some 331) ?_
    refine offK HT_ 20 (some 332) ?_
    refine offK HT_ 21 (some 333) ?_
    refine offK HT_ 22 (some 334) ?_
    refine pureK HT_ 23 (some 335) ?_
    refine pureK HT_ 24 (some 336) ?_
    refine offK HT_ 25 (some 337) ?_
    refine offK HT_ 26 (some 338) ?_
    refine offK HT_ 27 (some 339) ?_
    refine pureK HT_ 28 (some 340) ?_
    refine pureK HT_ 29 (some 341) ?_
    refine offK HT_ 30 (some 342) ?_
    refine offK HT_ 31 (some 343) ?_
    refine offK HT_ 32 (some 344) ?_
    refine pureK HT_ 33 (some 345) ?_
    refine pureK HT_ 34 (some 346) ?_
    refine offK HT_ 35 (some 347) ?_
    refine offK HT_ 36 (some 348) ?_
    refine offK HT_ 37 (some 349) ?_
    refine offK HT_ 38 (some 350) ?_
    refine offK HT_ 39 (some 351) ?_
    refine pureK HT_ 40 (some 352) ?_
    refine pureK HT_ 41 (some 353) ?_
    refine offK HT_ 42 (some 354) ?_
    refine offK HT_ 43 (some 355) ?_
    refine offK HT_ 44 (some 356) ?_
    refine offK HT_ 45 (some 357) ?_
    refine offK HT_ 46 (some 358) ?_
    refine offK HT_ 47 (some 359) ?_
    refine pureK HT_ 48 (some 360) ?_
    refine done_ (done_of HT_.out (by kernel_rfl)) ?_
    try go_wp2
    go_meet
    case rel => exact ⟨_, (true), (by first | rfl | (simp; done) | (simp [*]; done)), H', ⟨by have := HJ13.out; have := HJ78.out; have := HJ389.out; have := HJ479.out; first | omega | exact Nat.le_refl _⟩, ⟨by (with_reducible repeat (first | apply Kd.R_alloc | apply Kd.R_drewN | apply Kd.R_drew)); exact Kd.R_mono HO426.out (fun _ hk => ⟨hk.1.2, hk.1.1.1.1.1.2⟩)⟩, ⟨by (with_reducible repeat (first | apply Kd.R_alloc | apply Kd.R_drewN | apply Kd.R_drew)); exact Kd.R_mono HO436.out (fun _ hk => ⟨hk.1.1.1.1.1.2, hk.1.1.1.2⟩)⟩, ⟨bk BK3⟩, ⟨bk BK4⟩, ⟨bk BK5⟩, ⟨bk BK14⟩, ⟨bk BK16⟩, ⟨bw HB⟩⟩
   have c726b0 : (t437 != t442) = false := by simpa using c726
   (try (have c726b1 : decide (t437 = t442) = true := by simpa using c726))
   (try (have c726b2 : (t437 == t442) = true := by simpa using c726))
   clear c726
   replace H := bindS H; obtain ⟨t449, A728, H⟩ := H
   have H' := Aside0.mk H
   clear H
   have H := H'.out
   clear H'
   replace H := iteB H; rcases H with ⟨rfl, H⟩ | ⟨rfl, H⟩
   rotate_left
   ·
    have H' := Aside0.mk H
    clear H
    refine startK 49 (S := fun w' => w'.cell? ⟨gb14, 0, none⟩ = some (.slice Ao662 t424.length co662) ∧ w'.cell? ⟨gb15, 0, none⟩ = some (.slice Ao674 t429.length co674) ∧ w'.cell? ⟨gb16, 0, none⟩ = some (.slice Ao689 t434.length co689) ∧ w'.cell? ⟨gb17, 0, none⟩ = some (.slice Ao702 t439.length co702)) (ds := []) laws_FnSnailsHiddenOfAll.tab37 laws_FnSnailsHiddenOfAll.bits37 (hS := ⟨bc BK14 0, bc BK15 0, bc BK16 0, bc BK17 0⟩) (h := fun hHeld HT_ HW_ => ?_)
    generalize w721.drew = w749 at HO426 HO431 HO436 HO441 BK3 BK4 BK5 BK6 BK7 BK8 BK14 BK15 BK16 BK17 HB hHeld ⊢
    refine pureK HT_ 0 (some 312) ?_
    refine pureK HT_ 1 (some 313) ?_
    refine pureK HT_ 2 (some 314) ?_
    refine pureK HT_ 3 (some 315) ?_
    refine pureK HT_ 4 (some 316) ?_
    refine pureK HT_ 6 (some 318) ?_
    refine takeK HT_ HW_ hHeld 5 (some 317) ?_
    refine takeK HT_ HW_ hHeld 7 (some 319) ?_
    refine oneK HT_ 8 (some 320) (fun K hK => ?_)
    refine goes_ Try.func7 (by kernel_rfl) rfl #[.slice Ao662 t424.length co662, .slice Ao674 t429.length co674] (by rfl) rfl rfl argR ?_
    with_reducible refine (laws_qClues.calls kj479 _ _ t424 _ _ t429 true _ ?side1 ?side2 ?side3 ?side4 A724.out).mono ?_
    (case side1 => exact rs HO426)
    (case side2 => exact rl HO426)
    (case side3 => exact rs HO431)
    (case side4 => exact rl HO431)
    rintro e w' ⟨rfl, ⟨nd, rfl⟩⟩
    refine ⟨_, rfl, ?_⟩
    refine hK.out _ _ ⟨bc BK14 0, bc BK15 0, bc BK16 0, bc BK17 0⟩ (fun hHeld => ?_)
    clear hK K
    refine normK (N := some 320) (h := ?_)
    refine pureK HT_ 9 (some 321) ?_
    refine pureK HT_ 10 (some 322) ?_
    refine pureK HT_ 11 (some 323) ?_
    refine pureK HT_ 12 (some 324) ?_
    refine pureK HT_ 13 (some 325) ?_
    refine pureK HT_ 14 (some 326) ?_
    refine pureK HT_ 15 (some 327) ?_
    refine pureK HT_ 16 (some 328) ?_
    refine pureK HT_ 17 (some 329) ?_
    refine pureK HT_ 19 (some 331) ?_
    refine takeK HT_ HW_ hHeld 18 (some 330) ?_
    refine takeK HT_ HW_ hHeld 20 (some 332) ?_
    refine oneK HT_ 21 (some 333) (fun K hK => ?_)
    refine goes_ Try.func7 (by kernel_rfl) rfl #[.slice Ao689 t434.length co689, .slice Ao702 t439.length co702] (by rfl) rfl rfl argR ?_
    with_reducible refine (laws_qClues.calls kj479 _ _ t434 _ _ t439 false _ ?side1 ?side2 ?side3 ?side4 A728.out).mono ?_
    (case side1 => exact rs HO436)
    (case side2 => exact rl HO436)
    (case side3 => exact rs HO441)
    (case side4 => exact rl HO441)
    rintro e w' ⟨rfl, ⟨nd, rfl⟩⟩
    refine ⟨_, rfl, ?_⟩
    refine hK.out _ _ ⟨bc BK14 0, bc BK15 0, bc BK16 0, bc BK17 0⟩ (fun hHeld => ?_)
    clear hK K
    refine normK (N := some 333) (h := ?_)
    refine pureK HT_ 22 (some 334) ?_
    refine pureK HT_ 23 (some 335) ?_
    refine pureK HT_ 24 (some 336) ?_
    refine offK HT_ 25 (some 337) ?_
    refine offK HT_ 26 (some 338) ?_
    refine offK HT_ 27 (some 339) ?_
    refine pureK HT_ 28 (some 340) ?_
    refine pureK HT_ 29 (some 341) ?_
    refine offK HT_ 30 (some 342) ?_
    refine offK HT_ 31 (some 343) ?_
    refine offK HT_ 32 (some 344) ?_
    refine pureK HT_ 33 (some 345) ?_
    refine pureK HT_ 34 (some 346) ?_
    refine offK HT_ 35 (some 347) ?_
    refine offK HT_ 36 (some 348) ?_
    refine offK HT_ 37 (some 349) ?_
    refine offK HT_ 38 (some 350) ?_
    refine offK HT_ 39 (some 351) ?_
    refine pureK HT_ 40 (some 352) ?_
    refine pureK HT_ 41 (some 353) ?_
    refine offK HT_ 42 (some 354) ?_
    refine offK HT_ 43 (some 355) ?_
    refine offK HT_ 44 (some 356) ?_
    refine offK HT_ 45 (some 357) ?_
    refine offK HT_ 46 (some 358) ?_
    refine offK HT_ 47 (some 359) ?_
    refine pureK HT_ 48 (some 360) ?_
    refine done_ (done_of HT_.out (by kernel_rfl)) ?_
    try go_wp2
    go_meet
    case rel => exact ⟨_, (true), (by first | rfl | (simp; done) | (simp [*]; done)), H', ⟨by have := HJ13.out; have := HJ78.out; have := HJ389.out; have := HJ479.out; first | omega | exact Nat.le_refl _⟩, ⟨by (with_reducible repeat (first | apply Kd.R_alloc | apply Kd.R_drewN | apply Kd.R_drew)); exact Kd.R_mono HO426.out (fun _ hk => ⟨hk.1.2, hk.1.1.1.1.1.2⟩)⟩, ⟨by (with_reducible repeat (first | apply Kd.R_alloc | apply Kd.R_drewN | apply Kd.R_drew)); exact Kd.R_mono HO436.out (fun _ hk => ⟨hk.1.1.1.1.1.2, hk.1.1.1.2⟩)⟩, ⟨bk BK3⟩, ⟨bk BK4⟩, ⟨bk BK5⟩, ⟨bk BK14⟩, ⟨bk BK16⟩, ⟨bw HB⟩⟩
   have H' := Aside0.mk H
   clear H
   have H := H'.out
   clear H'
   replace H := iteC H; rcases H with ⟨c730, H⟩ | ⟨c730, H⟩
   ·
    have c730b0 : (t445 != t447) = true := c730
    (try (have c730b1 : decide (t445 = t447) = false := by simpa using c730))
    (try (have c730b2 : (t445 == t447) = false := by simpa using c730))
    (try (have c730b3 : ¬ (t445 = t447) := by simpa using c730))
    clear c730
    have H' := Aside0.mk H
    clear H
    refine startK 49 (S := fun w' => w'.cell? ⟨gb14, 0, none⟩ = some (.slice Ao662 t424.length co662) ∧ w'.cell? ⟨gb15, 0, none⟩ = some (.slice Ao674 t429.length co674) ∧ w'.cell? ⟨gb16, 0, none⟩ = some (.slice Ao689 t434.length co689) ∧ w'.cell? ⟨gb17, 0, none⟩ = some (.slice Ao702 t439.length co702)) (ds := []) laws_FnSnailsHiddenOfAll.tab37 laws_FnSnailsHiddenOfAll.bits37 (hS := ⟨bc BK14 0, bc BK15 0, bc BK16 0, bc BK17 0⟩) (h := fun hHeld HT_ HW_ => ?_)
    generalize w721.drew = w731 at HO426 HO431 HO436 HO441 BK3 BK4 BK5 BK6 BK7 BK8 BK14 BK15 BK16 BK17 HB hHeld ⊢
    refine pureK HT_ 0 (some 312) ?_
    refine pureK HT_ 1 (some 313) ?_
    refine pureK HT_ 2 (some 314) ?_
    refine pureK HT_ 3 (some 315) ?_
    refine pureK HT_ 4 (some 316) ?_
    refine pureK HT_ 6 (some 318) ?_
    refine takeK HT_ HW_ hHeld 5 (some 317) ?_
    refine takeK HT_ HW_ hHeld 7 (some 319) ?_
    refine oneK HT_ 8 (some 320) (fun K hK => ?_)
    refine goes_ Try.func7 (by kernel_rfl) rfl #[.slice Ao662 t424.length co662, .slice Ao674 t429.length co674] (by rfl) rfl rfl argR ?_
    with_reducible refine (laws_qClues.calls kj479 _ _ t424 _ _ t429 true _ ?side1 ?side2 ?side3 ?side4 A724.out).mono ?_
    (case side1 => exact rs HO426)
    (case side2 => exact rl HO426)
    (case side3 => exact rs HO431)
    (case side4 => exact rl HO431)
    rintro e w' ⟨rfl, ⟨nd, rfl⟩⟩
    refine ⟨_, rfl, ?_⟩
    refine hK.out _ _ ⟨bc BK14 0, bc BK15 0, bc BK16 0, bc BK17 0⟩ (fun hHeld => ?_)
    clear hK K
    refine normK (N := some 320) (h := ?_)
    refine pureK HT_ 9 (some 321) ?_
    refine pureK HT_ 10 (some 322) ?_
    refine pureK HT_ 11 (some 323) ?_
    refine pureK HT_ 12 (some 324) ?_
    refine pureK HT_ 13 (some 325) ?_
    refine pureK HT_ 14 (some 326) ?_
    refine pureK HT_ 15 (some 327) ?_
    refine pureK HT_ 16 (some 328) ?_
    refine pureK HT_ 17 (some 329) ?_
    refine pureK HT_ 19 (some 331) ?_
    refine takeK HT_ HW_ hHeld 18 (some 330) ?_
    refine takeK HT_ HW_ hHeld 20 (some 332) ?_
    refine oneK HT_ 21 (some 333) (fun K hK => ?_)
    refine goes_ Try.func7 (by kernel_rfl) rfl #[.slice Ao689 t434.length co689, .slice Ao702 t439.length co702] (by rfl) rfl rfl argR ?_
    with_reducible refine (laws_qClues.calls kj479 _ _ t434 _ _ t439 true _ ?side1 ?side2 ?side3 ?side4 A728.out).mono ?_
    (case side1 => exact rs HO436)
    (case side2 => exact rl HO436)
    (case side3 => exact rs HO441)
    (case side4 => exact rl HO441)
    rintro e w' ⟨rfl, ⟨nd, rfl⟩⟩
    refine ⟨_, rfl, ?_⟩
    refine hK.out _ _ ⟨bc BK14 0, bc BK15 0, bc BK16 0, bc BK17 0⟩ (fun hHeld => ?_)
    clear hK K
    refine normK (N := some 333) (h := ?_)
    refine pureK HT_ 22 (some 334) ?_
    refine pureK HT_ 23 (some 335) ?_
    refine pureK HT_ 24 (some 336) ?_
    refine pureK HT_ 25 (some 337) ?_
    refine pureK HT_ 26 (some 338) ?_
    refine pureK HT_ 27 (some 339) ?_
    refine pureK HT_ 28 (some 340) ?_
    refine pureK HT_ 29 (some 341) ?_
    refine offK HT_ 30 (some 342) ?_
    refine offK HT_ 31 (some 343) ?_
    refine offK HT_ 32 (some 344) ?_
    refine pureK HT_ 33 (some 345) ?_
    refine pureK HT_ 34 (some 346) ?_
    refine offK HT_ 35 (some 347) ?_
    refine offK HT_ 36 (some 348) ?_
    refine offK HT_ 37 (some 349) ?_
    refine offK HT_ 38 (some 350) ?_
    refine offK HT_ 39 (some 351) ?_
    refine pureK HT_ 40 (some 352) ?_
    refine pureK HT_ 41 (some 353) ?_
    refine offK HT_ 42 (some 354) ?_
    refine offK HT_ 43 (some 355) ?_
    refine offK HT_ 44 (some 356) ?_
    refine offK HT_ 45 (some 357) ?_
    refine offK HT_ 46 (some 358) ?_
    refine offK HT_ 47 (some 359) ?_
    refine pureK HT_ 48 (some 360) ?_
    refine done_ (done_of HT_.out (by kernel_rfl)) ?_
    try go_wp2
    go_meet
    case rel => exact ⟨_, (true), (by first | rfl | (simp; done) | (simp [*]; done)), H', ⟨by have := HJ13.out; have := HJ78.out; have := HJ389.out; have := HJ479.out; first | omega | exact Nat.le_refl _⟩, ⟨by (with_reducible repeat (first | apply Kd.R_alloc | apply Kd.R_drewN | apply Kd.R_drew)); exact Kd.R_mono HO426.out (fun _ hk => ⟨hk.1.2, hk.1.1.1.1.1.2⟩)⟩, ⟨by (with_reducible repeat (first | apply Kd.R_alloc | apply Kd.R_drewN | apply Kd.R_drew)); exact Kd.R_mono HO436.out (fun _ hk => ⟨hk.1.1.1.1.1.2, hk.1.1.1.2⟩)⟩, ⟨bk BK3⟩, ⟨bk BK4⟩, ⟨bk BK5⟩, ⟨bk BK14⟩, ⟨bk BK16⟩, ⟨bw HB⟩⟩
   have c730b0 : (t445 != t447) = false := by simpa using c730
   (try (have c730b1 : decide (t445 = t447) = true := by simpa using c730))
   (try (have c730b2 : (t445 == t447) = true := by simpa using c730))
   clear c730
   have H' := Aside0.mk H
   clear H
   have H := H'.out
   clear H'
   replace H := iteC H; rcases H with ⟨c732, H⟩ | ⟨c732, H⟩
   ·
    have c732b0 : (t444 != t446) = true := c732
    (try (have c732b1 : decide (t444 = t446) = false := by simpa using c732))
    (try (have c732b2 : (t444 == t446) = false := by simpa using c732))
    (try (have c732b3 : ¬ (t444 = t446) := by simpa using c732))
    clear c732
    have H' := Aside0.mk H
    clear H
    refine startK 49 (S := fun w' => w'.cell? ⟨gb14, 0, none⟩ = some (.slice Ao662 t424.length co662) ∧ w'.cell? ⟨gb15, 0, none⟩ = some (.slice Ao674 t429.length co674) ∧ w'.cell? ⟨gb16, 0, none⟩ = some (.slice Ao689 t434.length co689) ∧ w'.cell? ⟨gb17, 0, none⟩ = some (.slice Ao702 t439.length co702)) (ds := []) laws_FnSnailsHiddenOfAll.tab37 laws_FnSnailsHiddenOfAll.bits37 (hS := ⟨bc BK14 0, bc BK15 0, bc BK16 0, bc BK17 0⟩) (h := fun hHeld HT_ HW_ => ?_)
    generalize w721.drew = w733 at HO426 HO431 HO436 HO441 BK3 BK4 BK5 BK6 BK7 BK8 BK14 BK15 BK16 BK17 HB hHeld ⊢
    refine pureK HT_ 0 (some 312) ?_
    refine pureK HT_ 1 (some 313) ?_
    refine pureK HT_ 2 (some 314) ?_
    refine pureK HT_ 3 (some 315) ?_
    refine pureK HT_ 4 (some 316) ?_
    refine pureK HT_ 6 (some 318) ?_
    refine takeK HT_ HW_ hHeld 5 (some 317) ?_
    refine takeK HT_ HW_ hHeld 7 (some 319) ?_
    refine oneK HT_ 8 (some 320) (fun K hK => ?_)
    refine goes_ Try.func7 (by kernel_rfl) rfl #[.slice Ao662 t424.length co662, .slice Ao674 t429.length co674] (by rfl) rfl rfl argR ?_
    with_reducible refine (laws_qClues.calls kj479 _ _ t424 _ _ t429 true _ ?side1 ?side2 ?side3 ?side4 A724.out).mono ?_
    (case side1 => exact rs HO426)
    (case side2 => exact rl HO426)
    (case side3 => exact rs HO431)
    (case side4 => exact rl HO431)
    rintro e w' ⟨rfl, ⟨nd, rfl⟩⟩
    refine ⟨_, rfl, ?_⟩
    refine hK.out _ _ ⟨bc BK14 0, bc BK15 0, bc BK16 0, bc BK17 0⟩ (fun hHeld => ?_)
    clear hK K
    refine normK (N := some 320) (h := ?_)
    refine pureK HT_ 9 (some 321) ?_
    refine pureK HT_ 10 (some 322) ?_
    refine pureK HT_ 11 (some 323) ?_
    refine pureK HT_ 12 (some 324) ?_
    refine pureK HT_ 13 (some 325) ?_
    refine pureK HT_ 14 (some 326) ?_
    refine pureK HT_ 15 (some 327) ?_
    refine pureK HT_ 16 (some 328) ?_
    refine pureK HT_ 17 (some 329) ?_
    refine pureK HT_ 19 (some 331) ?_
    refine takeK HT_ HW_ hHeld 18 (some 330) ?_
    refine takeK HT_ HW_ hHeld 20 (some 332) ?_
    refine oneK HT_ 21 (some 333) (fun K hK => ?_)
    refine goes_ Try.func7 (by kernel_rfl) rfl #[.slice Ao689 t434.length co689, .slice Ao702 t439.length co702] (by rfl) rfl rfl argR ?_
    with_reducible refine (laws_qClues.calls kj479 _ _ t434 _ _ t439 true _ ?side1 ?side2 ?side3 ?side4 A728.out).mono ?_
    (case side1 => exact rs HO436)
    (case side2 => exact rl HO436)
    (case side3 => exact rs HO441)
    (case side4 => exact rl HO441)
    rintro e w' ⟨rfl, ⟨nd, rfl⟩⟩
    refine ⟨_, rfl, ?_⟩
    refine hK.out _ _ ⟨bc BK14 0, bc BK15 0, bc BK16 0, bc BK17 0⟩ (fun hHeld => ?_)
    clear hK K
    refine normK (N := some 333) (h := ?_)
    refine pureK HT_ 22 (some 334) ?_
    refine pureK HT_ 23 (some 335) ?_
    refine pureK HT_ 24 (some 336) ?_
    refine pureK HT_ 25 (some 337) ?_
    refine pureK HT_ 26 (some 338) ?_
    refine pureK HT_ 27 (some 339) ?_
    refine pureK HT_ 28 (some 340) ?_
    refine pureK HT_ 29 (some 341) ?_
    refine pureK HT_ 30 (some 342) ?_
    refine pureK HT_ 31 (some 343) ?_
    refine pureK HT_ 32 (some 344) ?_
    refine pureK HT_ 33 (some 345) ?_
    refine pureK HT_ 34 (some 346) ?_
    refine offK HT_ 35 (some 347) ?_
    refine offK HT_ 36 (some 348) ?_
    refine offK HT_ 37 (some 349) ?_
    refine offK HT_ 38 (some 350) ?_
    refine offK HT_ 39 (some 351) ?_
    refine pureK HT_ 40 (some 352) ?_
    refine pureK HT_ 41 (some 353) ?_
    refine offK HT_ 42 (some 354) ?_
    refine offK HT_ 43 (some 355) ?_
    refine offK HT_ 44 (some 356) ?_
    refine offK HT_ 45 (some 357) ?_
    refine offK HT_ 46 (some 358) ?_
    refine offK HT_ 47 (some 359) ?_
    refine pureK HT_ 48 (some 360) ?_
    refine done_ (done_of HT_.out (by kernel_rfl)) ?_
    try go_wp2
    go_meet
    case rel => exact ⟨_, (true), (by first | rfl | (simp; done) | (simp [*]; done)), H', ⟨by have := HJ13.out; have := HJ78.out; have := HJ389.out; have := HJ479.out; first | omega | exact Nat.le_refl _⟩, ⟨by (with_reducible repeat (first | apply Kd.R_alloc | apply Kd.R_drewN | apply Kd.R_drew)); exact Kd.R_mono HO426.out (fun _ hk => ⟨hk.1.2, hk.1.1.1.1.1.2⟩)⟩, ⟨by (with_reducible repeat (first | apply Kd.R_alloc | apply Kd.R_drewN | apply Kd.R_drew)); exact Kd.R_mono HO436.out (fun _ hk => ⟨hk.1.1.1.1.1.2, hk.1.1.1.2⟩)⟩, ⟨bk BK3⟩, ⟨bk BK4⟩, ⟨bk BK5⟩, ⟨bk BK14⟩, ⟨bk BK16⟩, ⟨bw HB⟩⟩
   have c732b0 : (t444 != t446) = false := by simpa using c732
   (try (have c732b1 : decide (t444 = t446) = true := by simpa using c732))
   (try (have c732b2 : (t444 == t446) = true := by simpa using c732))
   clear c732
   replace H := bindS H; obtain ⟨t450, A734, H⟩ := H
   replace H := bindS H; obtain ⟨t451, A735, H⟩ := H
   have H' := Aside0.mk H
   clear H
   have H := H'.out
   clear H'
   replace H := iteC H; rcases H with ⟨c736, H⟩ | ⟨c736, H⟩
   ·
    have c736b0 : (t450 != t451) = true := c736
    (try (have c736b1 : decide (t450 = t451) = false := by simpa using c736))
    (try (have c736b2 : (t450 == t451) = false := by simpa using c736))
    (try (have c736b3 : ¬ (t450 = t451) := by simpa using c736))
    clear c736
    have H' := Aside0.mk H
    clear H
    refine startK 49 (S := fun w' => w'.cell? ⟨gb14, 0, none⟩ = some (.slice Ao662 t424.length co662) ∧ w'.cell? ⟨gb15, 0, none⟩ = some (.slice Ao674 t429.length co674) ∧ w'.cell? ⟨gb16, 0, none⟩ = some (.slice Ao689 t434.length co689) ∧ w'.cell? ⟨gb17, 0, none⟩ = some (.slice Ao702 t439.length co702) ∧ w'.cell? ⟨gb8, 0, none⟩ = some (.int .i64 a10_0) ∧ w'.cell? ⟨gb8, 1, none⟩ = some (.int .i64 a10_1) ∧ w'.cell? ⟨gb8, 2, none⟩ = some (.int .i64 a10_2)) (ds := []) laws_FnSnailsHiddenOfAll.tab37 laws_FnSnailsHiddenOfAll.bits37 (hS := ⟨bc BK14 0, bc BK15 0, bc BK16 0, bc BK17 0, bc BK8 0, bc BK8 1, bc BK8 2⟩) (h := fun hHeld HT_ HW_ => ?_)
    generalize w721.drew = w737 at HO426 HO431 HO436 HO441 BK3 BK4 BK5 BK6 BK7 BK8 BK14 BK15 BK16 BK17 HB hHeld ⊢
    refine pureK HT_ 0 (some 312) ?_
    refine pureK HT_ 1 (some 313) ?_
    refine pureK HT_ 2 (some 314) ?_
    refine pureK HT_ 3 (some 315) ?_
    refine pureK HT_ 4 (some 316) ?_
    refine pureK HT_ 6 (some 318) ?_
    refine takeK HT_ HW_ hHeld 5 (some 317) ?_
    refine takeK HT_ HW_ hHeld 7 (some 319) ?_
    refine oneK HT_ 8 (some 320) (fun K hK => ?_)
    refine goes_ Try.func7 (by kernel_rfl) rfl #[.slice Ao662 t424.length co662, .slice Ao674 t429.length co674] (by rfl) rfl rfl argR ?_
    with_reducible refine (laws_qClues.calls kj479 _ _ t424 _ _ t429 true _ ?side1 ?side2 ?side3 ?side4 A724.out).mono ?_
    (case side1 => exact rs HO426)
    (case side2 => exact rl HO426)
    (case side3 => exact rs HO431)
    (case side4 => exact rl HO431)
    rintro e w' ⟨rfl, ⟨nd, rfl⟩⟩
    refine ⟨_, rfl, ?_⟩
    refine hK.out _ _ ⟨bc BK14 0, bc BK15 0, bc BK16 0, bc BK17 0, bc BK8 0, bc BK8 1, bc BK8 2⟩ (fun hHeld => ?_)
    clear hK K
    refine normK (N := some 320) (h := ?_)
    refine pureK HT_ 9 (some 321) ?_
    refine pureK HT_ 10 (some 322) ?_
    refine pureK HT_ 11 (some 323) ?_
    refine pureK HT_ 12 (some 324) ?_
    refine pureK HT_ 13 (some 325) ?_
    refine pureK HT_ 14 (some 326) ?_
    refine pureK HT_ 15 (some 327) ?_
    refine pureK HT_ 16 (some 328) ?_
    refine pureK HT_ 17 (some 329) ?_
    refine pureK HT_ 19 (some 331) ?_
    refine takeK HT_ HW_ hHeld 18 (some 330) ?_
    refine takeK HT_ HW_ hHeld 20 (some 332) ?_
    refine oneK HT_ 21 (some 333) (fun K hK => ?_)
    refine goes_ Try.func7 (by kernel_rfl) rfl #[.slice Ao689 t434.length co689, .slice Ao702 t439.length co702] (by rfl) rfl rfl argR ?_
    with_reducible refine (laws_qClues.calls kj479 _ _ t434 _ _ t439 true _ ?side1 ?side2 ?side3 ?side4 A728.out).mono ?_
    (case side1 => exact rs HO436)
    (case side2 => exact rl HO436)
    (case side3 => exact rs HO441)
    (case side4 => exact rl HO441)
    rintro e w' ⟨rfl, ⟨nd, rfl⟩⟩
    refine ⟨_, rfl, ?_⟩
    refine hK.out _ _ ⟨bc BK14 0, bc BK15 0, bc BK16 0, bc BK17 0, bc BK8 0, bc BK8 1, bc BK8 2⟩ (fun hHeld => ?_)
    clear hK K
    refine normK (N := some 333) (h := ?_)
    refine pureK HT_ 22 (some 334) ?_
    refine pureK HT_ 23 (some 335) ?_
    refine pureK HT_ 24 (some 336) ?_
    refine pureK HT_ 25 (some 337) ?_
    refine pureK HT_ 26 (some 338) ?_
    refine pureK HT_ 27 (some 339) ?_
    refine pureK HT_ 28 (some 340) ?_
    refine pureK HT_ 29 (some 341) ?_
    refine pureK HT_ 30 (some 342) ?_
    refine pureK HT_ 31 (some 343) ?_
    refine pureK HT_ 32 (some 344) ?_
    refine pureK HT_ 33 (some 345) ?_
    refine pureK HT_ 34 (some 346) ?_
    refine takeK HT_ HW_ hHeld 35 (some 347) ?_
    refine takeK HT_ HW_ hHeld 37 (some 349) ?_
    refine oneK HT_ 36 (some 348) (fun K hK => ?_)
    refine goes_ Try.func23 (by kernel_rfl) rfl #[.agg #[.int .i64 a10_0, .int .i64 a10_1, .int .i64 a10_2]] (by rfl) rfl rfl argR ?_
    with_reducible refine (impl_IsClue.calls a10_0 a10_1 a10_2 t450 _ A734.out).mono ?_
    rintro e w738 ⟨rfl, hb⟩
    refine ⟨_, rfl, ?_⟩
    replace HO426 := ko HO426 hb
    replace HO431 := ko HO431 hb
    replace HO436 := ko HO436 hb
    replace HO441 := ko HO441 hb
    refine mv8 hb BK3 BK4 BK5 BK6 BK7 BK8 BK14 BK15 ?_
    clear BK3 BK4 BK5 BK6 BK7 BK8 BK14 BK15
    intro BK3 BK4 BK5 BK6 BK7 BK8 BK14 BK15
    refine mv2 hb BK16 BK17 ?_
    clear BK16 BK17
    intro BK16 BK17
    replace HB := kw HB hb
    (try clear hb)
    (try clear hb2)
    (try clear hk)
    (try clear hi)
    refine hK.out _ _ ⟨bc BK14 0, bc BK15 0, bc BK16 0, bc BK17 0, bc BK8 0, bc BK8 1, bc BK8 2⟩ (fun hHeld => ?_)
    clear hK K
    refine normK (N := some 348) (h := ?_)
    refine oneK HT_ 38 (some 350) (fun K hK => ?_)
    refine goes_ Try.func24 (by kernel_rfl) rfl #[.agg #[.int .i64 a10_0, .int .i64 a10_1, .int .i64 a10_2]] (by rfl) rfl rfl argR ?_
    with_reducible refine (spec_IsClue.calls a10_0 a10_1 a10_2 t451 _ A735.out).mono ?_
    rintro e w739 ⟨rfl, hb⟩
    refine ⟨_, rfl, ?_⟩
    replace HO426 := ko HO426 hb
    replace HO431 := ko HO431 hb
    replace HO436 := ko HO436 hb
    replace HO441 := ko HO441 hb
    refine mv8 hb BK3 BK4 BK5 BK6 BK7 BK8 BK14 BK15 ?_
    clear BK3 BK4 BK5 BK6 BK7 BK8 BK14 BK15
    intro BK3 BK4 BK5 BK6 BK7 BK8 BK14 BK15
    refine mv2 hb BK16 BK17 ?_
    clear BK16 BK17
    intro BK16 BK17
    replace HB := kw HB hb
    (try clear hb)
    (try clear hb2)
    (try clear hk)
    (try clear hi)
    refine hK.out _ _ ⟨bc BK14 0, bc BK15 0, bc BK16 0, bc BK17 0, bc BK8 0, bc BK8 1, bc BK8 2⟩ (fun hHeld => ?_)
    clear hK K
    refine normK (N := some 350) (h := ?_)
    refine pureK HT_ 39 (some 351) ?_
    refine pureK HT_ 40 (some 352) ?_
    refine pureK HT_ 41 (some 353) ?_
    refine offK HT_ 42 (some 354) ?_
    refine offK HT_ 43 (some 355) ?_
    refine offK HT_ 44 (some 356) ?_
    refine offK HT_ 45 (some 357) ?_
    refine offK HT_ 46 (some 358) ?_
    refine offK HT_ 47 (some 359) ?_
    refine pureK HT_ 48 (some 360) ?_
    refine done_ (done_of HT_.out (by kernel_rfl)) ?_
    try go_wp2
    go_meet
    case rel => exact ⟨_, (true), (by first | rfl | (simp; done) | (simp [*]; done)), H', ⟨by have := HJ13.out; have := HJ78.out; have := HJ389.out; have := HJ479.out; first | omega | exact Nat.le_refl _⟩, ⟨by (with_reducible repeat (first | apply Kd.R_alloc | apply Kd.R_drewN | apply Kd.R_drew)); exact Kd.R_mono HO426.out (fun _ hk => ⟨hk.1.2, hk.1.1.1.1.1.2⟩)⟩, ⟨by (with_reducible repeat (first | apply Kd.R_alloc | apply Kd.R_drewN | apply Kd.R_drew)); exact Kd.R_mono HO436.out (fun _ hk => ⟨hk.1.1.1.1.1.2, hk.1.1.1.2⟩)⟩, ⟨bk BK3⟩, ⟨bk BK4⟩, ⟨bk BK5⟩, ⟨bk BK14⟩, ⟨bk BK16⟩, ⟨bw HB⟩⟩
   have c736b0 : (t450 != t451) = false := by simpa using c736
   (try (have c736b1 : decide (t450 = t451) = true := by simpa using c736))
   (try (have c736b2 : (t450 == t451) = true := by simpa using c736))
   clear c736
   have H' := Aside0.mk H
   clear H
   have H := H'.out
   clear H'
   replace H := iteB H; rcases H with ⟨rfl, H⟩ | ⟨rfl, H⟩
   rotate_left
   ·
    have H' := Aside0.mk H
    clear H
    refine startK 49 (S := fun w' => w'.cell? ⟨gb14, 0, none⟩ = some (.slice Ao662 t424.length co662) ∧ w'.cell? ⟨gb15, 0, none⟩ = some (.slice Ao674 t429.length co674) ∧ w'.cell? ⟨gb16, 0, none⟩ = some (.slice Ao689 t434.length co689) ∧ w'.cell? ⟨gb17, 0, none⟩ = some (.slice Ao702 t439.length co702) ∧ w'.cell? ⟨gb8, 0, none⟩ = some (.int .i64 a10_0) ∧ w'.cell? ⟨gb8, 1, none⟩ = some (.int .i64 a10_1) ∧ w'.cell? ⟨gb8, 2, none⟩ = some (.int .i64 a10_2)) (ds := []) laws_FnSnailsHiddenOfAll.tab37 laws_FnSnailsHiddenOfAll.bits37 (hS := ⟨bc BK14 0, bc BK15 0, bc BK16 0, bc BK17 0, bc BK8 0, bc BK8 1, bc BK8 2⟩) (h := fun hHeld HT_ HW_ => ?_)
    generalize w721.drew = w746 at HO426 HO431 HO436 HO441 BK3 BK4 BK5 BK6 BK7 BK8 BK14 BK15 BK16 BK17 HB hHeld ⊢
    refine pureK HT_ 0 (some 312) ?_
    refine pureK HT_ 1 (some 313) ?_
    refine pureK HT_ 2 (some 314) ?_
    refine pureK HT_ 3 (some 315) ?_
    refine pureK HT_ 4 (some 316) ?_
    refine pureK HT_ 6 (some 318) ?_
    refine takeK HT_ HW_ hHeld 5 (some 317) ?_
    refine takeK HT_ HW_ hHeld 7 (some 319) ?_
    refine oneK HT_ 8 (some 320) (fun K hK => ?_)
    refine goes_ Try.func7 (by kernel_rfl) rfl #[.slice Ao662 t424.length co662, .slice Ao674 t429.length co674] (by rfl) rfl rfl argR ?_
    with_reducible refine (laws_qClues.calls kj479 _ _ t424 _ _ t429 true _ ?side1 ?side2 ?side3 ?side4 A724.out).mono ?_
    (case side1 => exact rs HO426)
    (case side2 => exact rl HO426)
    (case side3 => exact rs HO431)
    (case side4 => exact rl HO431)
    rintro e w' ⟨rfl, ⟨nd, rfl⟩⟩
    refine ⟨_, rfl, ?_⟩
    refine hK.out _ _ ⟨bc BK14 0, bc BK15 0, bc BK16 0, bc BK17 0, bc BK8 0, bc BK8 1, bc BK8 2⟩ (fun hHeld => ?_)
    clear hK K
    refine normK (N := some 320) (h := ?_)
    refine pureK HT_ 9 (some 321) ?_
    refine pureK HT_ 10 (some 322) ?_
    refine pureK HT_ 11 (some 323) ?_
    refine pureK HT_ 12 (some 324) ?_
    refine pureK HT_ 13 (some 325) ?_
    refine pureK HT_ 14 (some 326) ?_
    refine pureK HT_ 15 (some 327) ?_
    refine pureK HT_ 16 (some 328) ?_
    refine pureK HT_ 17 (some 329) ?_
    refine pureK HT_ 19 (some 331) ?_
    refine takeK HT_ HW_ hHeld 18 (some 330) ?_
    refine takeK HT_ HW_ hHeld 20 (some 332) ?_
    refine oneK HT_ 21 (some 333) (fun K hK => ?_)
    refine goes_ Try.func7 (by kernel_rfl) rfl #[.slice Ao689 t434.length co689, .slice Ao702 t439.length co702] (by rfl) rfl rfl argR ?_
    with_reducible refine (laws_qClues.calls kj479 _ _ t434 _ _ t439 true _ ?side1 ?side2 ?side3 ?side4 A728.out).mono ?_
    (case side1 => exact rs HO436)
    (case side2 => exact rl HO436)
    (case side3 => exact rs HO441)
    (case side4 => exact rl HO441)
    rintro e w' ⟨rfl, ⟨nd, rfl⟩⟩
    refine ⟨_, rfl, ?_⟩
    refine hK.out _ _ ⟨bc BK14 0, bc BK15 0, bc BK16 0, bc BK17 0, bc BK8 0, bc BK8 1, bc BK8 2⟩ (fun hHeld => ?_)
    clear hK K
    refine normK (N := some 333) (h := ?_)
    refine pureK HT_ 22 (some 334) ?_
    refine pureK HT_ 23 (some 335) ?_
    refine pureK HT_ 24 (some 336) ?_
    refine pureK HT_ 25 (some 337) ?_
    refine pureK HT_ 26 (some 338) ?_
    refine pureK HT_ 27 (some 339) ?_
    refine pureK HT_ 28 (some 340) ?_
    refine pureK HT_ 29 (some 341) ?_
    refine pureK HT_ 30 (some 342) ?_
    refine pureK HT_ 31 (some 343) ?_
    refine pureK HT_ 32 (some 344) ?_
    refine pureK HT_ 33 (some 345) ?_
    refine pureK HT_ 34 (some 346) ?_
    refine takeK HT_ HW_ hHeld 35 (some 347) ?_
    refine takeK HT_ HW_ hHeld 37 (some 349) ?_
    refine oneK HT_ 36 (some 348) (fun K hK => ?_)
    refine goes_ Try.func23 (by kernel_rfl) rfl #[.agg #[.int .i64 a10_0, .int .i64 a10_1, .int .i64 a10_2]] (by rfl) rfl rfl argR ?_
    with_reducible refine (impl_IsClue.calls a10_0 a10_1 a10_2 t450 _ A734.out).mono ?_
    rintro e w747 ⟨rfl, hb⟩
    refine ⟨_, rfl, ?_⟩
    replace HO426 := ko HO426 hb
    replace HO431 := ko HO431 hb
    replace HO436 := ko HO436 hb
    replace HO441 := ko HO441 hb
    refine mv8 hb BK3 BK4 BK5 BK6 BK7 BK8 BK14 BK15 ?_
    clear BK3 BK4 BK5 BK6 BK7 BK8 BK14 BK15
    intro BK3 BK4 BK5 BK6 BK7 BK8 BK14 BK15
    refine mv2 hb BK16 BK17 ?_
    clear BK16 BK17
    intro BK16 BK17
    replace HB := kw HB hb
    (try clear hb)
    (try clear hb2)
    (try clear hk)
    (try clear hi)
    refine hK.out _ _ ⟨bc BK14 0, bc BK15 0, bc BK16 0, bc BK17 0, bc BK8 0, bc BK8 1, bc BK8 2⟩ (fun hHeld => ?_)
    clear hK K
    refine normK (N := some 348) (h := ?_)
    refine oneK HT_ 38 (some 350) (fun K hK => ?_)
    refine goes_ Try.func24 (by kernel_rfl) rfl #[.agg #[.int .i64 a10_0, .int .i64 a10_1, .int .i64 a10_2]] (by rfl) rfl rfl argR ?_
    with_reducible refine (spec_IsClue.calls a10_0 a10_1 a10_2 t451 _ A735.out).mono ?_
    rintro e w748 ⟨rfl, hb⟩
    refine ⟨_, rfl, ?_⟩
    replace HO426 := ko HO426 hb
    replace HO431 := ko HO431 hb
    replace HO436 := ko HO436 hb
    replace HO441 := ko HO441 hb
    refine mv8 hb BK3 BK4 BK5 BK6 BK7 BK8 BK14 BK15 ?_
    clear BK3 BK4 BK5 BK6 BK7 BK8 BK14 BK15
    intro BK3 BK4 BK5 BK6 BK7 BK8 BK14 BK15
    refine mv2 hb BK16 BK17 ?_
    clear BK16 BK17
    intro BK16 BK17
    replace HB := kw HB hb
    (try clear hb)
    (try clear hb2)
    (try clear hk)
    (try clear hi)
    refine hK.out _ _ ⟨bc BK14 0, bc BK15 0, bc BK16 0, bc BK17 0, bc BK8 0, bc BK8 1, bc BK8 2⟩ (fun hHeld => ?_)
    clear hK K
    refine normK (N := some 350) (h := ?_)
    refine pureK HT_ 39 (some 351) ?_
    refine pureK HT_ 40 (some 352) ?_
    refine pureK HT_ 41 (some 353) ?_
    refine pureK HT_ 42 (some 354) ?_
    refine pureK HT_ 43 (some 355) ?_
    refine offK HT_ 44 (some 356) ?_
    refine offK HT_ 45 (some 357) ?_
    refine offK HT_ 46 (some 358) ?_
    refine pureK HT_ 47 (some 359) ?_
    refine pureK HT_ 48 (some 360) ?_
    refine done_ (done_of HT_.out (by kernel_rfl)) ?_
    try go_wp2
    go_meet
    case rel => exact ⟨_, (false), (by first | rfl | (simp; done) | (simp [*]; done)), H', ⟨by have := HJ13.out; have := HJ78.out; have := HJ389.out; have := HJ479.out; first | omega | exact Nat.le_refl _⟩, ⟨by (with_reducible repeat (first | apply Kd.R_alloc | apply Kd.R_drewN | apply Kd.R_drew)); exact Kd.R_mono HO426.out (fun _ hk => ⟨hk.1.2, hk.1.1.1.1.1.2⟩)⟩, ⟨by (with_reducible repeat (first | apply Kd.R_alloc | apply Kd.R_drewN | apply Kd.R_drew)); exact Kd.R_mono HO436.out (fun _ hk => ⟨hk.1.1.1.1.1.2, hk.1.1.1.2⟩)⟩, ⟨bk BK3⟩, ⟨bk BK4⟩, ⟨bk BK5⟩, ⟨bk BK14⟩, ⟨bk BK16⟩, ⟨bw HB⟩⟩
   replace H := bindS H; obtain ⟨t452, A741, H⟩ := H
   have H' := Aside0.mk H
   clear H
   refine startK 49 (S := fun w' => w'.cell? ⟨gb14, 0, none⟩ = some (.slice Ao662 t424.length co662) ∧ w'.cell? ⟨gb15, 0, none⟩ = some (.slice Ao674 t429.length co674) ∧ w'.cell? ⟨gb16, 0, none⟩ = some (.slice Ao689 t434.length co689) ∧ w'.cell? ⟨gb17, 0, none⟩ = some (.slice Ao702 t439.length co702) ∧ w'.cell? ⟨gb8, 0, none⟩ = some (.int .i64 a10_0) ∧ w'.cell? ⟨gb8, 1, none⟩ = some (.int .i64 a10_1) ∧ w'.cell? ⟨gb8, 2, none⟩ = some (.int .i64 a10_2) ∧ w'.cell? ⟨gb6, 0, none⟩ = some (.int .i64 a8_0) ∧ w'.cell? ⟨gb6, 1, none⟩ = some (.int .i64 a8_1) ∧ w'.cell? ⟨gb6, 2, none⟩ = some (.int .i64 a8_2)) (ds := []) laws_FnSnailsHiddenOfAll.tab37 laws_FnSnailsHiddenOfAll.bits37 (hS := ⟨bc BK14 0, bc BK15 0, bc BK16 0, bc BK17 0, bc BK8 0, bc BK8 1, bc BK8 2, bc BK6 0, bc BK6 1, bc BK6 2⟩) (h := fun hHeld HT_ HW_ => ?_)
   generalize w721.drew = w742 at HO426 HO431 HO436 HO441 BK3 BK4 BK5 BK6 BK7 BK8 BK14 BK15 BK16 BK17 HB hHeld ⊢
   refine pureK HT_ 0 (some 312) ?_
   refine pureK HT_ 1 (some 313) ?_
   refine pureK HT_ 2 (some 314) ?_
   refine pureK HT_ 3 (some 315) ?_
   refine pureK HT_ 4 (some 316) ?_
   refine pureK HT_ 6 (some 318) ?_
   refine takeK HT_ HW_ hHeld 5 (some 317) ?_
   refine takeK HT_ HW_ hHeld 7 (some 319) ?_
   refine oneK HT_ 8 (some 320) (fun K hK => ?_)
   refine goes_ Try.func7 (by kernel_rfl) rfl #[.slice Ao662 t424.length co662, .slice Ao674 t429.length co674] (by rfl) rfl rfl argR ?_
   with_reducible refine (laws_qClues.calls kj479 _ _ t424 _ _ t429 true _ ?side1 ?side2 ?side3 ?side4 A724.out).mono ?_
   (case side1 => exact rs HO426)
   (case side2 => exact rl HO426)
   (case side3 => exact rs HO431)
   (case side4 => exact rl HO431)
   rintro e w' ⟨rfl, ⟨nd, rfl⟩⟩
   refine ⟨_, rfl, ?_⟩
   refine hK.out _ _ ⟨bc BK14 0, bc BK15 0, bc BK16 0, bc BK17 0, bc BK8 0, bc BK8 1, bc BK8 2, bc BK6 0, bc BK6 1, bc BK6 2⟩ (fun hHeld => ?_)
   clear hK K
   refine normK (N := some 320) (h := ?_)
   refine pureK HT_ 9 (some 321) ?_
   refine pureK HT_ 10 (some 322) ?_
   refine pureK HT_ 11 (some 323) ?_
   refine pureK HT_ 12 (some 324) ?_
   refine pureK HT_ 13 (some 325) ?_
   refine pureK HT_ 14 (some 326) ?_
   refine pureK HT_ 15 (some 327) ?_
   refine pureK HT_ 16 (some 328) ?_
   refine pureK HT_ 17 (some 329) ?_
   refine pureK HT_ 19 (some 331) ?_
   refine takeK HT_ HW_ hHeld 18 (some 330) ?_
   refine takeK HT_ HW_ hHeld 20 (some 332) ?_
   refine oneK HT_ 21 (some 333) (fun K hK => ?_)
   refine goes_ Try.func7 (by kernel_rfl) rfl #[.slice Ao689 t434.length co689, .slice Ao702 t439.length co702] (by rfl) rfl rfl argR ?_
   with_reducible refine (laws_qClues.calls kj479 _ _ t434 _ _ t439 true _ ?side1 ?side2 ?side3 ?side4 A728.out).mono ?_
   (case side1 => exact rs HO436)
   (case side2 => exact rl HO436)
   (case side3 => exact rs HO441)
   (case side4 => exact rl HO441)
   rintro e w' ⟨rfl, ⟨nd, rfl⟩⟩
   refine ⟨_, rfl, ?_⟩
   refine hK.out _ _ ⟨bc BK14 0, bc BK15 0, bc BK16 0, bc BK17 0, bc BK8 0, bc BK8 1, bc BK8 2, bc BK6 0, bc BK6 1, bc BK6 2⟩ (fun hHeld => ?_)
   clear hK K
   refine normK (N := some 333) (h := ?_)
   refine pureK HT_ 22 (some 334) ?_
   refine pureK HT_ 23 (some 335) ?_
   refine pureK HT_ 24 (some 336) ?_
   refine pureK HT_ 25 (some 337) ?_
   refine pureK HT_ 26 (some 338) ?_
   refine pureK HT_ 27 (some 339) ?_
   refine pureK HT_ 28 (some 340) ?_
   refine pureK HT_ 29 (some 341) ?_
   refine pureK HT_ 30 (some 342) ?_
   refine pureK HT_ 31 (some 343) ?_
   refine pureK HT_ 32 (some 344) ?_
   refine pureK HT_ 33 (some 345) ?_
   refine pureK HT_ 34 (some 346) ?_
   refine takeK HT_ HW_ hHeld 35 (some 347) ?_
   refine takeK HT_ HW_ hHeld 37 (some 349) ?_
   refine oneK HT_ 36 (some 348) (fun K hK => ?_)
   refine goes_ Try.func23 (by kernel_rfl) rfl #[.agg #[.int .i64 a10_0, .int .i64 a10_1, .int .i64 a10_2]] (by rfl) rfl rfl argR ?_
   with_reducible refine (impl_IsClue.calls a10_0 a10_1 a10_2 t450 _ A734.out).mono ?_
   rintro e w743 ⟨rfl, hb⟩
   refine ⟨_, rfl, ?_⟩
   replace HO426 := ko HO426 hb
   replace HO431 := ko HO431 hb
   replace HO436 := ko HO436 hb
   replace HO441 := ko HO441 hb
   refine mv8 hb BK3 BK4 BK5 BK6 BK7 BK8 BK14 BK15 ?_
   clear BK3 BK4 BK5 BK6 BK7 BK8 BK14 BK15
   intro BK3 BK4 BK5 BK6 BK7 BK8 BK14 BK15
   refine mv2 hb BK16 BK17 ?_
   clear BK16 BK17
   intro BK16 BK17
   replace HB := kw HB hb
   (try clear hb)
   (try clear hb2)
   (try clear hk)
   (try clear hi)
   refine hK.out _ _ ⟨bc BK14 0, bc BK15 0, bc BK16 0, bc BK17 0, bc BK8 0, bc BK8 1, bc BK8 2, bc BK6 0, bc BK6 1, bc BK6 2⟩ (fun hHeld => ?_)
   clear hK K
   refine normK (N := some 348) (h := ?_)
   refine oneK HT_ 38 (some 350) (fun K hK => ?_)
   refine goes_ Try.func24 (by kernel_rfl) rfl #[.agg #[.int .i64 a10_0, .int .i64 a10_1, .int .i64 a10_2]] (by rfl) rfl rfl argR ?_
   with_reducible refine (spec_IsClue.calls a10_0 a10_1 a10_2 t451 _ A735.out).mono ?_
   rintro e w744 ⟨rfl, hb⟩
   refine ⟨_, rfl, ?_⟩
   replace HO426 := ko HO426 hb
   replace HO431 := ko HO431 hb
   replace HO436 := ko HO436 hb
   replace HO441 := ko HO441 hb
   refine mv8 hb BK3 BK4 BK5 BK6 BK7 BK8 BK14 BK15 ?_
   clear BK3 BK4 BK5 BK6 BK7 BK8 BK14 BK15
   intro BK3 BK4 BK5 BK6 BK7 BK8 BK14 BK15
   refine mv2 hb BK16 BK17 ?_
   clear BK16 BK17
   intro BK16 BK17
   replace HB := kw HB hb
   (try clear hb)
   (try clear hb2)
   (try clear hk)
   (try clear hi)
   refine hK.out _ _ ⟨bc BK14 0, bc BK15 0, bc BK16 0, bc BK17 0, bc BK8 0, bc BK8 1, bc BK8 2, bc BK6 0, bc BK6 1, bc BK6 2⟩ (fun hHeld => ?_)
   clear hK K
   refine normK (N := some 350) (h := ?_)
   refine pureK HT_ 39 (some 351) ?_
   refine pureK HT_ 40 (some 352) ?_
   refine pureK HT_ 41 (some 353) ?_
   refine pureK HT_ 42 (some 354) ?_
   refine pureK HT_ 43 (some 355) ?_
   refine takeK HT_ HW_ hHeld 44 (some 356) ?_
   refine oneK HT_ 45 (some 357) (fun K hK => ?_)
   refine goes_ Try.func23 (by kernel_rfl) rfl #[.agg #[.int .i64 a8_0, .int .i64 a8_1, .int .i64 a8_2]] (by rfl) rfl rfl argR ?_
   with_reducible refine (impl_IsClue.calls a8_0 a8_1 a8_2 t452 _ A741.out).mono ?_
   rintro e w745 ⟨rfl, hb⟩
   refine ⟨_, rfl, ?_⟩
   replace HO426 := ko HO426 hb
   replace HO431 := ko HO431 hb
   replace HO436 := ko HO436 hb
   replace HO441 := ko HO441 hb
   refine mv8 hb BK3 BK4 BK5 BK6 BK7 BK8 BK14 BK15 ?_
   clear BK3 BK4 BK5 BK6 BK7 BK8 BK14 BK15
   intro BK3 BK4 BK5 BK6 BK7 BK8 BK14 BK15
   refine mv2 hb BK16 BK17 ?_
   clear BK16 BK17
   intro BK16 BK17
   replace HB := kw HB hb
   (try clear hb)
   (try clear hb2)
   (try clear hk)
   (try clear hi)
   refine hK.out _ _ ⟨bc BK14 0, bc BK15 0, bc BK16 0, bc BK17 0, bc BK8 0, bc BK8 1, bc BK8 2, bc BK6 0, bc BK6 1, bc BK6 2⟩ (fun hHeld => ?_)
   clear hK K
   refine normK (N := some 357) (h := ?_)
   refine pureK HT_ 46 (some 358) ?_
   refine pureK HT_ 47 (some 359) ?_
   refine pureK HT_ 48 (some 360) ?_
   refine done_ (done_of HT_.out (by kernel_rfl)) ?_
   try go_wp2
   go_meet
   case rel => exact ⟨_, (!t452), (by first | rfl | (simp; done) | (simp [*]; done)), H', ⟨by have := HJ13.out; have := HJ78.out; have := HJ389.out; have := HJ479.out; first | omega | exact Nat.le_refl _⟩, ⟨by (with_reducible repeat (first | apply Kd.R_alloc | apply Kd.R_drewN | apply Kd.R_drew)); exact Kd.R_mono HO426.out (fun _ hk => ⟨hk.1.2, hk.1.1.1.1.1.2⟩)⟩, ⟨by (with_reducible repeat (first | apply Kd.R_alloc | apply Kd.R_drewN | apply Kd.R_drew)); exact Kd.R_mono HO436.out (fun _ hk => ⟨hk.1.1.1.1.1.2, hk.1.1.1.2⟩)⟩, ⟨bk BK3⟩, ⟨bk BK4⟩, ⟨bk BK5⟩, ⟨bk BK14⟩, ⟨bk BK16⟩, ⟨bw HB⟩⟩
  case rest =>
   clear HC648
   obtain ⟨kq, x360_647, rfl, HA, HJ647, HO_429000, HO_439000, BK3, BK4, BK5, BK14, BK16, HB⟩ := hcut
   exact laws_FnSnailsHiddenOfAll.r5 k a0_0 a0_1 a1 a2 A3_0 c3_0 l3_0 A4_0 c4_0 l4_0 a5_0 a5_1 a5_2 A6_0 c6_0 l6_0 a7 a8_0 a8_1 a8_2 a9_0 a9_1 a10_0 a10_1 a10_2 r w HR4_0 HC4_0 HR6_0 HC6_0 t375 t380 gb1 gb2 gb3 gb4 NB3_4 gb5 NB3_5 gb6 gb7 gb8 gb9 gb10 u69 u70 u71 u72 u73 u74 u75 u76 u77 u78 u79 u80 u81 u82 u83 u84 u85 u86 u87 u88 u89 u90 u91 u92 kj13 HJ13 u27 u28 u29 u30 u31 u32 u33 u34 u35 u36 u38 u39 u40 u93 u94 u95 u96 u97 u98 u99 u100 u101 u102 u103 u104 u105 u106 u107 u108 u109 u110 u111 u112 u113 u114 u115 u116 u117 u118 u119 u120 u121 u122 u123 u124 u125 u126 u127 u128 u129 u130 u131 u132 u133 u134 u135 u136 u137 u138 u139 u140 u141 u142 u143 u144 u145 u146 u147 u148 u149 u150 u151 u152 u153 u154 u155 u156 u157 u158 u159 u160 u161 u162 u163 u164 u165 u166 u167 u168 u169 u170 u171 u172 u173 u174 u175 u176 u177 u178 u179 u180 u181 u182 u183 u184 u185 u186 u187 u188 u189 u190 u191 u192 u193 u194 u195 kj78 HJ78 t401 t406 t408 t409 gb12 gb13 u196 u197 u198 u199 u200 u201 u202 u203 u204 u205 u206 u207 u208 u209 u210 u211 u212 u213 u214 u215 u216 u217 u218 u219 u220 u221 u222 u223 u224 u225 u226 u227 u228 kj389 HJ389 u22 u47 u48 u49 u50 u51 u52 u229 u230 u231 u232 u233 u234 u235 u236 u237 u238 u239 u240 u241 u242 u243 u244 u245 u246 u247 u248 u249 u250 u251 u252 u253 u254 u255 u256 u257 u258 u259 u260 u261 u262 u263 u264 u265 u266 u267 u268 u269 u270 u271 u272 u273 u274 u275 kj479 HJ479 t424 t427 t432 t434 t437 t442 t444 t445 t446 t447 _ rfl gb14 NB14_3 NB14_4 NB14_5 Ao662 co662 gb15 gb16 NB3_16 NB5_16 NB14_16 Ao689 co689 gb17 _ (by assumption) _ (by assumption) wc u276 u277 u278 u279 u280 u281 u282 u283 u284 u285 u286 u287 u288 u289 u290 u291 u292 u293 u294 u295 u296 u297 u298 u299 u300 u301 u302 u303 u304 u305 u306 u307 u308 u309 u310 u311 u312 u313 u314 u315 u316 u317 u318 u319 u320 u321 u322 u323 u324 u325 u326 u327 u328 u329 u330 u331 u332 u333 u334 u335 u336 u337 u338 u339 u340 u341 u342 u343 u344 u345 u346 u347 u348 u349 u350 u351 u352 u353 u354 u355 u356 u357 u358 u359 kq x360_647 HA HJ647 HO_429000 HO_439000 BK3 BK4 BK5 BK14 BK16 HB

end Go.Proofs.Ytlpjooijkeadbaa.PH
