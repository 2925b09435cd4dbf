-- Written by a program of our own (wip/tools/xprint.py) for this claim; Lean checks it.
import Derived.Test.YtlpjooijkeadbaaPHx0
import Derived.Test.YtlpjooijkeadbaaPHx3
import Derived.Test.YtlpjooijkeadbaaPHx4
import Derived.Test.YtlpjooijkeadbaaPHx5
import Derived.Test.YtlpjooijkeadbaaPHx7
import Derived.Test.YtlpjooijkeadbaaPHx8
import Derived.Test.YtlpjooijkeadbaaPHx9
import Derived.Test.YtlpjooijkeadbaaPHx10
import Derived.Test.YtlpjooijkeadbaaKC
import Derived.Test.YtlpjooijkeadbaaPHx11p6
namespace Go.Proofs.Ytlpjooijkeadbaa.PH
open Go.RowKit Go.Proofs.YtlpjooijkeadbaaK Go.Proofs.YtlpjooijkeadbaaW.PrintWords Go.Proofs.YtlpjooijkeadbaaW.PrintLast Go.Proofs.YtlpjooijkeadbaaW.PrintMore
attribute [local go_sem] max2_int min2_int max_two min_two max_three min_three max_four min_four   -- for this text's walks alone
set_option linter.unusedVariables false
set_option linter.unusedSimpArgs false

attribute [local go_sem high] eqA28
set_option maxHeartbeats 8000000 in
set_option maxRecDepth 100000 in
theorem laws_FnSnailsHiddenOfAll.r5 (k : Nat) (a0_0 a0_1 a1 a2 : Int) (A3_0 : Option Addr) (c3_0 : Nat) (l3_0 : List S28) (A4_0 : Option Addr) (c4_0 : Nat) (l4_0 : List S28) (a5_0 a5_1 a5_2 : Int) (A6_0 : Option Addr) (c6_0 : Nat) (l6_0 : List S28) (a7 a8_0 a8_1 a8_2 a9_0 a9_1 a10_0 a10_1 a10_2 : Int) (r : Bool) (w : World) (HR4_0 : Aside0 (k28.C w A4_0 l4_0.length l4_0)) (HC4_0 : Aside0 (l4_0.length ≤ c4_0)) (HR6_0 : Aside0 (k28.C w A6_0 l6_0.length l6_0)) (HC6_0 : Aside0 (l6_0.length ≤ c6_0)) (t375 t380 : Bool) (gb1 gb2 gb3 gb4 : Nat) (NB3_4 : Aside0 (gb3 ≠ gb4)) (gb5 : Nat) (NB3_5 : Aside0 (gb3 ≠ gb5)) (gb6 gb7 gb8 gb9 gb10 : Nat) (u69 u70 u71 u72 u73 u74 u75 u76 u77 u78 u79 u80 u81 u82 u83 u84 u85 u86 u87 u88 u89 u90 u91 u92 : Value) (kj13 : Nat) (HJ13 : Aside0 (kj13 + 1 ≤ k)) (u27 u28 u29 u30 u31 u32 u33 u34 u35 u36 u38 u39 u40 u93 u94 u95 u96 u97 u98 u99 u100 u101 u102 u103 u104 u105 u106 u107 u108 u109 u110 u111 u112 u113 u114 u115 u116 u117 u118 u119 u120 u121 u122 u123 u124 u125 u126 u127 u128 u129 u130 u131 u132 u133 u134 u135 u136 u137 u138 u139 u140 u141 u142 u143 u144 u145 u146 u147 u148 u149 u150 u151 u152 u153 u154 u155 u156 u157 u158 u159 u160 u161 u162 u163 u164 u165 u166 u167 u168 u169 u170 u171 u172 u173 u174 u175 u176 u177 u178 u179 u180 u181 u182 u183 u184 u185 u186 u187 u188 u189 u190 u191 u192 u193 u194 u195 : Value) (kj78 : Nat) (HJ78 : Aside0 (kj78 + 1 ≤ kj13)) (t401 t406 t408 t409 : Bool) (gb12 gb13 : Nat) (u196 u197 u198 u199 u200 u201 u202 u203 u204 u205 u206 u207 u208 u209 u210 u211 u212 u213 u214 u215 u216 u217 u218 u219 u220 u221 u222 u223 u224 u225 u226 u227 u228 : Value) (kj389 : Nat) (HJ389 : Aside0 (kj389 + 1 ≤ kj78)) (u22 u47 u48 u49 u50 u51 u52 u229 u230 u231 u232 u233 u234 u235 u236 u237 u238 u239 u240 u241 u242 u243 u244 u245 u246 u247 u248 u249 u250 u251 u252 u253 u254 u255 u256 u257 u258 u259 u260 u261 u262 u263 u264 u265 u266 u267 u268 u269 u270 u271 u272 u273 u274 u275 : Value) (kj479 : Nat) (HJ479 : Aside0 (kj479 + 1 ≤ kj389)) (t424 : List S28) (t427 t432 : Bool) (t434 : List S28) (t437 t442 t444 t445 t446 t447 : Bool) (Qz2 : Exit → Act → World → Prop) (hQz2 : Qz2 = bodyPost Try.prog Try.f3 fun e w' => e = Ending.returned (Value.bool r) ∧ Below w.heap.size w w') (gb14 : Nat) (NB14_3 : Aside0 (gb14 ≠ gb3)) (NB14_4 : Aside0 (gb14 ≠ gb4)) (NB14_5 : Aside0 (gb14 ≠ gb5)) (Ao662 : Option Addr) (co662 gb15 gb16 : Nat) (NB3_16 : Aside0 (gb3 ≠ gb16)) (NB5_16 : Aside0 (gb5 ≠ gb16)) (NB14_16 : Aside0 (gb14 ≠ gb16)) (Ao689 : Option Addr) (co689 gb17 : Nat) (Kz9 : Act → World → Prop) (az10 : ∀ (a : Act) (w : World), Code.wp Try.prog (cAt [1, 1, 1, 1, 1, 1, 1, 1, 1, 1, 1, 1, 1, 1, 1, 1, 1] Try.f3) Qz2 a w → Kz9 a w) (Kz11 : Act → World → Prop) (az12 : ∀ (a : Act) (w : World), Code.wp Try.prog (cAt [1, 1, 1, 1, 1, 1, 1, 1, 1, 1, 1, 1, 1, 1, 1, 1, 0, 1] Try.f3) (Exit.then Kz9 Qz2) a w → Kz11 a w) (wc : World) (u276 u277 u278 u279 u280 u281 u282 u283 u284 u285 u286 u287 u288 u289 u290 u291 u292 u293 u294 u295 u296 u297 u298 u299 u300 u301 u302 u303 u304 u305 u306 u307 u308 u309 u310 u311 u312 u313 u314 u315 u316 u317 u318 u319 u320 u321 u322 u323 u324 u325 u326 u327 u328 u329 u330 u331 u332 u333 u334 u335 u336 u337 u338 u339 u340 u341 u342 u343 u344 u345 u346 u347 u348 u349 u350 u351 u352 u353 u354 u355 u356 u357 u358 u359 : Value) (kq : Nat) (x360_647 : Bool) (HA : Aside0 (j6 kq a7 t427 t437 x360_647 l4_0 a5_0 a5_1 a5_2 l6_0 t424 t434 = some r)) (HJ647 : Aside0 (kq ≤ kj479)) (HO_429000 : Aside0 (k28.R 28 wc w.heap.size (fun k_ => some k_ ≠ (Value.slice Ao689 t434.length co689).ownBlock ∧ k_ ≠ gb4) (Value.slice Ao662 t424.length co662) t424)) (HO_439000 : Aside0 (k28.R 28 wc w.heap.size (fun k_ => some k_ ≠ (Value.slice Ao662 t424.length co662).ownBlock ∧ k_ ≠ gb4) (Value.slice Ao689 t434.length co689) t434)) (BK3 : Aside0 (wc.heap[gb3]? = some (Obj.cells #[Value.slice A4_0 l4_0.length c4_0] 26))) (BK4 : Aside0 (wc.heap[gb4]? = some (Obj.cells #[Value.int IntKind.i64 a5_0, Value.int IntKind.i64 a5_1, Value.int IntKind.i64 a5_2] 28))) (BK5 : Aside0 (wc.heap[gb5]? = some (Obj.cells #[Value.slice A6_0 l6_0.length c6_0] 26))) (BK14 : Aside0 (wc.heap[gb14]? = some (Obj.cells #[Value.slice Ao662 t424.length co662] 26))) (BK16 : Aside0 (wc.heap[gb16]? = some (Obj.cells #[Value.slice Ao689 t434.length co689] 26))) (HB : Aside0 (Below w.heap.size w wc)) :
    Kz11 { tmps := #[Value.agg #[Value.int IntKind.i64 a0_0, Value.int IntKind.i64 a0_1], Value.int IntKind.i64 a1, Value.int IntKind.i64 a2, Value.agg #[Value.slice A3_0 l3_0.length c3_0], Value.agg #[Value.slice A4_0 l4_0.length c4_0], Value.agg #[Value.int IntKind.i64 a5_0, Value.int IntKind.i64 a5_1, Value.int IntKind.i64 a5_2], Value.agg #[Value.slice A6_0 l6_0.length c6_0], Value.int IntKind.i64 a7, Value.agg #[Value.int IntKind.i64 a8_0, Value.int IntKind.i64 a8_1, Value.int IntKind.i64 a8_2], Value.agg #[Value.int IntKind.i64 a9_0, Value.int IntKind.i64 a9_1], Value.agg #[Value.int IntKind.i64 a10_0, Value.int IntKind.i64 a10_1, Value.int IntKind.i64 a10_2], Value.pointer (some { block := gb1, off := 0 }), undef, undef, Value.pointer (some { block := gb2, off := 0 }), Value.pointer (some { block := gb3, off := 0 }), Value.pointer (some { block := gb4, off := 0 }), Value.pointer (some { block := gb5, off := 0 }), undef, Value.pointer (some { block := gb6, off := 0 }), Value.pointer (some { block := gb7, off := 0 }), Value.pointer (some { block := gb8, off := 0 }), u22, Value.pointer (some { block := gb9, off := 0 }), Value.bool t375, Value.pointer (some { block := gb10, off := 0 }), Value.bool t380, u27, u28, u29, u30, u31, u32, u33, u34, u35, u36, undef, u38, u39, u40, Value.pointer (some { block := gb12, off := 0 }), Value.bool t401, Value.pointer (some { block := gb13, off := 0 }), Value.bool t406, Value.bool t408, Value.bool t409, u47, u48, u49, u50, u51, u52, Value.pointer (some { block := gb14, off := 0 }), Value.bool t427, Value.pointer (some { block := gb15, off := 0 }), Value.bool t432, Value.pointer (some { block := gb16, off := 0 }), Value.bool t437, Value.pointer (some { block := gb17, off := 0 }), Value.bool t442, Value.bool t444, Value.bool t445, Value.bool t446, Value.bool t447, undef, undef, undef, undef, u69, u70, u71, u72, u73, u74, u75, u76, u77, u78, u79, u80, u81, u82, u83, u84, u85, u86, u87, u88, u89, u90, u91, u92, u93, u94, u95, u96, u97, u98, u99, u100, u101, u102, u103, u104, u105, u106, u107, u108, u109, u110, u111, u112, u113, u114, u115, u116, u117, u118, u119, u120, u121, u122, u123, u124, u125, u126, u127, u128, u129, u130, u131, u132, u133, u134, u135, u136, u137, u138, u139, u140, u141, u142, u143, u144, u145, u146, u147, u148, u149, u150, u151, u152, u153, u154, u155, u156, u157, u158, u159, u160, u161, u162, u163, u164, u165, u166, u167, u168, u169, u170, u171, u172, u173, u174, u175, u176, u177, u178, u179, u180, u181, u182, u183, u184, u185, u186, u187, u188, u189, u190, u191, u192, u193, u194, u195, u196, u197, u198, u199, u200, u201, u202, u203, u204, u205, u206, u207, u208, u209, u210, u211, u212, u213, u214, u215, u216, u217, u218, u219, u220, u221, u222, u223, u224, u225, u226, u227, u228, u229, u230, u231, u232, u233, u234, u235, u236, u237, u238, u239, u240, u241, u242, u243, u244, u245, u246, u247, u248, u249, u250, u251, u252, u253, u254, u255, u256, u257, u258, u259, u260, u261, u262, u263, u264, u265, u266, u267, u268, u269, u270, u271, u272, u273, u274, u275, u276, u277, u278, u279, u280, u281, u282, u283, u284, u285, u286, u287, u288, u289, u290, u291, u292, u293, u294, u295, u296, u297, u298, u299, u300, u301, u302, u303, u304, u305, u306, u307, u308, u309, u310, u311, u312, u313, u314, u315, u316, u317, u318, u319, u320, u321, u322, u323, u324, u325, u326, u327, u328, u329, u330, u331, u332, u333, u334, u335, u336, u337, u338, u339, u340, u341, u342, u343, u344, u345, u346, u347, u348, u349, u350, u351, u352, u353, u354, u355, u356, u357, u358, u359, Value.bool x360_647, undef, undef, undef, undef, undef, undef, undef, undef, undef, undef, undef, undef, undef, undef, undef, undef, undef, undef, undef, undef, undef, undef, undef, undef, undef, undef, undef, undef, undef, undef, undef, undef, undef, undef, undef, undef, undef, undef, undef, undef, undef, undef, undef, undef, undef, undef, undef, undef, undef, undef, undef, undef, undef, undef, undef, undef, undef], defers := [] } wc := by
 subst hQz2
 (try dsimp only)
 conv at az10 => ext a w; lhs; arg 2; whnf
 conv at az12 => ext a w; lhs; arg 2; whnf
 cases kq with
 | zero => exact absurd HA.out (by simp [laws_FnSnailsHiddenOfAll.j6])
 | succ kj647 =>
  have H := HA.out
  clear HA
  simp only [laws_FnSnailsHiddenOfAll.j6] at H
  replace H := iteB H; rcases H with ⟨rfl, H⟩ | ⟨rfl, H⟩
  ·
   obtain rfl := Option.some.inj H
   go_wp2
   go_ret
   exact ⟨eqR, bw HB⟩
  have HC752 := Aside0.mk H
  clear H
  go_upto_if 361 with (fail)
  go_cut [360, 361] from 1 to 0 (fun _ _ wc => ∃ (kq : Nat), Aside0 (laws_FnSnailsHiddenOfAll.j7 kq a7 t437 l6_0 t434 = some r) ∧ Aside0 (kq ≤ kj647) ∧ Aside0 (Kd.R k28 28 wc w.heap.size (fun _ => True) (.slice Ao689 t434.length co689) t434) ∧ Aside0 (wc.heap[gb5]? = some (.cells #[(.slice A6_0 l6_0.length c6_0)] 26 (0, 0))) ∧ Aside0 (wc.heap[gb16]? = some (.cells #[(.slice Ao689 t434.length co689)] 26 (0, 0))) ∧ Aside0 (Below w.heap.size w wc))
  case first =>
   have H := HC752.out
   clear HC752
   replace H := iteB H; rcases H with ⟨rfl, H⟩ | ⟨rfl, H⟩
   rotate_left
   ·
    have H' := Aside0.mk H
    clear H
    go_wp2
    go_meet
    case rel => exact ⟨_, H', ⟨by have := HJ13.out; have := HJ78.out; have := HJ389.out; have := HJ479.out; have := HJ647.out; first | omega | exact Nat.le_refl _⟩, ⟨by (with_reducible repeat (first | apply Kd.R_alloc | apply Kd.R_drewN | apply Kd.R_drew)); exact Kd.R_mono HO_439000.out (fun _ hk => trivial)⟩, ⟨bk BK5⟩, ⟨bk BK16⟩, ⟨bw HB⟩⟩
   replace H := bindS H; obtain ⟨⟨t453, t456⟩, A754, H⟩ := H
   replace H := iteB H; rcases H with ⟨rfl, H⟩ | ⟨rfl, H⟩
   rotate_left
   ·
    obtain rfl := Option.some.inj H
    have hnb821 := up4 NB14_3 NB14_4 NB14_5 NB14_16
    obtain ⟨hcz825_0, hfz825_0⟩ := kc1 BK14
    have hnb826 := up3 NB3_4 NB3_5 NB3_16
    obtain ⟨hcz829_0, hfz829_0⟩ := kc1 BK3
    try go_wp2_with (first | ((with_reducible refine gate_callee (f := 20) rfl ?_); refine goesL_ (some 367) rfl rfl Try.func20 (by kernel_rfl) rfl #[.agg #[.slice Ao662 t424.length co662], .int .i64 (l4_0.length : Int)] rfl argR ?_; (with_reducible refine (impl_DropClue.calls kj647 _ _ t424 (l4_0.length : Int) t453 false _ ?side1 ?side2 A754.out).mono ?_); (case side1 => exact rs HO_429000); (case side2 => exact rl HO_429000); rintro e w830 ⟨v454, rfl, ho0, hb⟩; refine ⟨_, rfl, ?_⟩; have HO455 := Aside0.mk (Kd.R_lower (Kd.R_newB (Kd.R_new' (Kd.R_new' ho0 (Kd.R_lt (ro HO_429000))) (Kd.R_lt (ro HO_439000))) (bk BK4)) (below_size (bw HB))); replace HO_429000 := Aside0.mk (Kd.R_elder' (ro HO_429000) (Kd.R_base ho0) hb); replace HO_439000 := Aside0.mk (Kd.R_elder' (ro HO_439000) (Kd.R_base ho0) hb); refine mv5 hb BK3 BK4 BK5 BK14 BK16 ?_; clear BK3 BK4 BK5 BK14 BK16; intro BK3 BK4 BK5 BK14 BK16; replace HB := kw HB hb; (try clear hb); (try clear ho0)) | ((with_reducible refine gate_dst (N := 65) rfl ?_); (try (refine gate_guard (by rfl) ?_; dsimp only)); refine boxK HB (N := 65) (cs := #[.slice none 0 0]) (t := 26) (h := ?_); clear HB; intro gb18 hg w831 BK18 GW18 GE18 HB hb; replace HO_429000 := ko HO_429000 hb; replace HO_439000 := ko HO_439000 hb; replace HO455 := ko HO455 hb; obtain ⟨NB3_18, NB18_3, NB4_18, NB18_4, NB5_18, NB18_5, NB14_18, NB18_14, NB16_18, NB18_16⟩ := nv5 hg BK3 BK4 BK5 BK14 BK16; refine mv5 hb BK3 BK4 BK5 BK14 BK16 ?_; clear BK3 BK4 BK5 BK14 BK16; intro BK3 BK4 BK5 BK14 BK16; clear hb hg; obtain ⟨Ao832, co832, eo832⟩ := Kd.R_slice HO455.out; subst eo832; have hnb833 := up5 NB18_3 NB18_4 NB18_5 NB18_14 NB18_16; obtain ⟨hcz838_0, hfz838_0⟩ := kc1 BK18))
    have n0_ : Aside0 (Kd.R k28 28 (w831.setCell ⟨gb18, 0, none⟩ (.slice Ao832 t453.length co832)) w.heap.size (fun k_ => some k_ ≠ (.slice Ao689 t434.length co689 : Value).ownBlock ∧ some k_ ≠ (.slice Ao832 t453.length co832 : Value).ownBlock ∧ k_ ≠ gb4) (.slice Ao662 t424.length co662) t424) := ⟨by (with_reducible repeat (first | apply Kd.R_alloc | apply Kd.R_drewN | apply Kd.R_drew)); exact Kd.R_mono (Kd.R_far (p := ⟨gb18, 0, none⟩) (Kd.R_types HO_429000.out BK18.out (by decide)) (fun _ hk => hk.2) (.slice Ao832 t453.length co832)) (fun _ hk => ⟨hk.1.1.1, ⟨hk.1.2, hk.1.1.2⟩⟩)⟩
    have n1_ : Aside0 (Kd.R k28 28 (w831.setCell ⟨gb18, 0, none⟩ (.slice Ao832 t453.length co832)) w.heap.size (fun k_ => some k_ ≠ (.slice Ao662 t424.length co662 : Value).ownBlock ∧ some k_ ≠ (.slice Ao832 t453.length co832 : Value).ownBlock ∧ k_ ≠ gb4) (.slice Ao689 t434.length co689) t434) := ⟨by (with_reducible repeat (first | apply Kd.R_alloc | apply Kd.R_drewN | apply Kd.R_drew)); exact Kd.R_mono (Kd.R_far (p := ⟨gb18, 0, none⟩) (Kd.R_types HO_439000.out BK18.out (by decide)) (fun _ hk => hk.2) (.slice Ao832 t453.length co832)) (fun _ hk => ⟨hk.1.1.1, ⟨hk.1.2, hk.1.1.2⟩⟩)⟩
    have n2_ : Aside0 (Kd.R k28 28 (w831.setCell ⟨gb18, 0, none⟩ (.slice Ao832 t453.length co832)) w.heap.size (fun k_ => some k_ ≠ (.slice Ao662 t424.length co662 : Value).ownBlock ∧ some k_ ≠ (.slice Ao689 t434.length co689 : Value).ownBlock ∧ k_ ≠ gb4) (.slice Ao832 t453.length co832) t453) := ⟨by (with_reducible repeat (first | apply Kd.R_alloc | apply Kd.R_drewN | apply Kd.R_drew)); exact Kd.R_mono (Kd.R_far (p := ⟨gb18, 0, none⟩) (Kd.R_types HO455.out BK18.out (by decide)) (fun _ hk => hk.2) (.slice Ao832 t453.length co832)) (fun _ hk => ⟨hk.1.1.1.2, ⟨hk.1.1.2, hk.1.2⟩⟩)⟩
    have n3_ : Aside0 ((w831.setCell ⟨gb18, 0, none⟩ (.slice Ao832 t453.length co832)).heap[gb3]? = some (.cells #[.slice A4_0 l4_0.length c4_0] 26 (0, 0))) := ⟨bf BK3 NB3_18⟩
    have n4_ : Aside0 ((w831.setCell ⟨gb18, 0, none⟩ (.slice Ao832 t453.length co832)).heap[gb4]? = some (.cells #[.int .i64 a5_0, .int .i64 a5_1, .int .i64 a5_2] 28 (0, 0))) := ⟨bf BK4 NB4_18⟩
    have n5_ : Aside0 ((w831.setCell ⟨gb18, 0, none⟩ (.slice Ao832 t453.length co832)).heap[gb5]? = some (.cells #[.slice A6_0 l6_0.length c6_0] 26 (0, 0))) := ⟨bf BK5 NB5_18⟩
    have n6_ : Aside0 ((w831.setCell ⟨gb18, 0, none⟩ (.slice Ao832 t453.length co832)).heap[gb14]? = some (.cells #[.slice Ao662 t424.length co662] 26 (0, 0))) := ⟨bf BK14 NB14_18⟩
    have n7_ : Aside0 ((w831.setCell ⟨gb18, 0, none⟩ (.slice Ao832 t453.length co832)).heap[gb16]? = some (.cells #[.slice Ao689 t434.length co689] 26 (0, 0))) := ⟨bf BK16 NB16_18⟩
    have n8_ : Aside0 ((w831.setCell ⟨gb18, 0, none⟩ (.slice Ao832 t453.length co832)).heap[gb18]? = some (.cells #[.slice Ao832 t453.length co832] 26 (0, 0))) := ⟨by (with_reducible repeat (first | refine blk_drewN ?_ _ | refine blk_drew ?_ | refine blk_alloc ?_ _)); refine blk_put (cs := #[.slice none 0 0]) ?_ 0 _ rfl; (with_reducible repeat (first | refine blk_drewN ?_ _ | refine blk_drew ?_ | refine blk_alloc ?_ _)); exact BK18.out⟩
    have n9_ : Aside0 (Below w.heap.size w (w831.setCell ⟨gb18, 0, none⟩ (.slice Ao832 t453.length co832))) := ⟨bw HB⟩
    (try clear HO_429000)
    (try clear HO_439000)
    (try clear HO455)
    (try clear BK3)
    (try clear BK4)
    (try clear BK5)
    (try clear BK14)
    (try clear BK16)
    (try clear BK18)
    (try clear HB)
    generalize (w831.setCell ⟨gb18, 0, none⟩ (.slice Ao832 t453.length co832)) = w839 at n0_ n1_ n2_ n3_ n4_ n5_ n6_ n7_ n8_ n9_ ⊢
    have HO_429000 := n0_
    have HO_439000 := n1_
    have HO455 := n2_
    have BK3 := n3_
    have BK4 := n4_
    have BK5 := n5_
    have BK14 := n6_
    have BK16 := n7_
    have BK18 := n8_
    have HB := n9_
    clear n0_ n1_ n2_ n3_ n4_ n5_ n6_ n7_ n8_ n9_
    replace HO_429000 := od HO_429000
    replace HO_439000 := od HO_439000
    replace HO455 := od HO455
    refine md6 BK3 BK4 BK5 BK14 BK16 BK18 ?_
    clear BK3 BK4 BK5 BK14 BK16 BK18
    intro BK3 BK4 BK5 BK14 BK16 BK18
    replace HB := Aside0.mk (below_drew1 HB.out)
    refine startK 21 (S := fun w' => True) (ds := []) laws_FnSnailsHiddenOfAll.tab41 laws_FnSnailsHiddenOfAll.bits41 (hS := trivial) (h := fun hHeld HT_ HW_ => ?_)
    generalize w839.drew = w840 at HO_429000 HO_439000 HO455 BK3 BK4 BK5 BK14 BK16 BK18 HB hHeld ⊢
    refine pureK HT_ 0 (some 370) ?_
    refine pureK HT_ 1 (some 371) ?_
    refine pureK HT_ 2 (some 372) ?_
    refine offK HT_ 3 (some 373) ?_
    refine offK HT_ 4 (some 374) ?_
    refine offK HT_ 5 (some 375) ?_
    refine offK HT_ 6 (some 376) ?_
    refine offK HT_ 7 (some 377) ?_
    refine offK HT_ 8 (some 378) ?_
    refine pureK HT_ 9 (some 379) ?_
    refine pureK HT_ 10 (some 380) ?_
    refine offK HT_ 11 (some 381) ?_
    refine offK HT_ 12 (some 382) ?_
    refine offK HT_ 13 (some 383) ?_
    refine offK HT_ 14 (some 384) ?_
    refine offK HT_ 15 (some 385) ?_
    refine offK HT_ 16 (some 386) ?_
    refine offK HT_ 17 (some 387) ?_
    refine offK HT_ 18 (some 388) ?_
    refine offK HT_ 19 (some 389) ?_
    refine pureK HT_ 20 (some 390) ?_
    refine done_ (done_of HT_.out (by kernel_rfl)) ?_
    try go_wp2
    go_ret
    exact ⟨eqR, bw HB⟩
   replace H := bindS H; obtain ⟨t458, A756, H⟩ := H
   replace H := iteB H; rcases H with ⟨rfl, H⟩ | ⟨rfl, H⟩
   rotate_left
   ·
    obtain rfl := Option.some.inj H
    have hnb801 := up4 NB14_3 NB14_4 NB14_5 NB14_16
    obtain ⟨hcz805_0, hfz805_0⟩ := kc1 BK14
    have hnb806 := up3 NB3_4 NB3_5 NB3_16
    obtain ⟨hcz809_0, hfz809_0⟩ := kc1 BK3
    try go_wp2_with (first | ((with_reducible refine gate_callee (f := 20) rfl ?_); refine goesL_ (some 367) rfl rfl Try.func20 (by kernel_rfl) rfl #[.agg #[.slice Ao662 t424.length co662], .int .i64 (l4_0.length : Int)] rfl argR ?_; (with_reducible refine (impl_DropClue.calls kj647 _ _ t424 (l4_0.length : Int) t453 true _ ?side1 ?side2 A754.out).mono ?_); (case side1 => exact rs HO_429000); (case side2 => exact rl HO_429000); rintro e w810 ⟨v454, rfl, ho0, hb⟩; refine ⟨_, rfl, ?_⟩; have HO455 := Aside0.mk (Kd.R_lower (Kd.R_newB (Kd.R_new' (Kd.R_new' ho0 (Kd.R_lt (ro HO_429000))) (Kd.R_lt (ro HO_439000))) (bk BK4)) (below_size (bw HB))); replace HO_429000 := Aside0.mk (Kd.R_elder' (ro HO_429000) (Kd.R_base ho0) hb); replace HO_439000 := Aside0.mk (Kd.R_elder' (ro HO_439000) (Kd.R_base ho0) hb); refine mv5 hb BK3 BK4 BK5 BK14 BK16 ?_; clear BK3 BK4 BK5 BK14 BK16; intro BK3 BK4 BK5 BK14 BK16; replace HB := kw HB hb; (try clear hb); (try clear ho0)) | ((with_reducible refine gate_dst (N := 65) rfl ?_); (try (refine gate_guard (by rfl) ?_; dsimp only)); refine boxK HB (N := 65) (cs := #[.slice none 0 0]) (t := 26) (h := ?_); clear HB; intro gb18 hg w811 BK18 GW18 GE18 HB hb; replace HO_429000 := ko HO_429000 hb; replace HO_439000 := ko HO_439000 hb; replace HO455 := ko HO455 hb; obtain ⟨NB3_18, NB18_3, NB4_18, NB18_4, NB5_18, NB18_5, NB14_18, NB18_14, NB16_18, NB18_16⟩ := nv5 hg BK3 BK4 BK5 BK14 BK16; refine mv5 hb BK3 BK4 BK5 BK14 BK16 ?_; clear BK3 BK4 BK5 BK14 BK16; intro BK3 BK4 BK5 BK14 BK16; clear hb hg; obtain ⟨Ao812, co812, eo812⟩ := Kd.R_slice HO455.out; subst eo812; have hnb813 := up5 NB18_3 NB18_4 NB18_5 NB18_14 NB18_16; obtain ⟨hcz818_0, hfz818_0⟩ := kc1 BK18))
    have n0_ : Aside0 (Kd.R k28 28 (w811.setCell ⟨gb18, 0, none⟩ (.slice Ao812 t453.length co812)) w.heap.size (fun k_ => some k_ ≠ (.slice Ao689 t434.length co689 : Value).ownBlock ∧ some k_ ≠ (.slice Ao812 t453.length co812 : Value).ownBlock ∧ k_ ≠ gb4) (.slice Ao662 t424.length co662) t424) := ⟨by (with_reducible repeat (first | apply Kd.R_alloc | apply Kd.R_drewN | apply Kd.R_drew)); exact Kd.R_mono (Kd.R_far (p := ⟨gb18, 0, none⟩) (Kd.R_types HO_429000.out BK18.out (by decide)) (fun _ hk => hk.2) (.slice Ao812 t453.length co812)) (fun _ hk => ⟨hk.1.1.1, ⟨hk.1.2, hk.1.1.2⟩⟩)⟩
    have n1_ : Aside0 (Kd.R k28 28 (w811.setCell ⟨gb18, 0, none⟩ (.slice Ao812 t453.length co812)) w.heap.size (fun k_ => some k_ ≠ (.slice Ao662 t424.length co662 : Value).ownBlock ∧ some k_ ≠ (.slice Ao812 t453.length co812 : Value).ownBlock ∧ k_ ≠ gb4) (.slice Ao689 t434.length co689) t434) := ⟨by (with_reducible repeat (first | apply Kd.R_alloc | apply Kd.R_drewN | apply Kd.R_drew)); exact Kd.R_mono (Kd.R_far (p := ⟨gb18, 0, none⟩) (Kd.R_types HO_439000.out BK18.out (by decide)) (fun _ hk => hk.2) (.slice Ao812 t453.length co812)) (fun _ hk => ⟨hk.1.1.1, ⟨hk.1.2, hk.1.1.2⟩⟩)⟩
    have n2_ : Aside0 (Kd.R k28 28 (w811.setCell ⟨gb18, 0, none⟩ (.slice Ao812 t453.length co812)) w.heap.size (fun k_ => some k_ ≠ (.slice Ao662 t424.length co662 : Value).ownBlock ∧ some k_ ≠ (.slice Ao689 t434.length co689 : Value).ownBlock ∧ k_ ≠ gb4) (.slice Ao812 t453.length co812) t453) := ⟨by (with_reducible repeat (first | apply Kd.R_alloc | apply Kd.R_drewN | apply Kd.R_drew)); exact Kd.R_mono (Kd.R_far (p := ⟨gb18, 0, none⟩) (Kd.R_types HO455.out BK18.out (by decide)) (fun _ hk => hk.2) (.slice Ao812 t453.length co812)) (fun _ hk => ⟨hk.1.1.1.2, ⟨hk.1.1.2, hk.1.2⟩⟩)⟩
    have n3_ : Aside0 ((w811.setCell ⟨gb18, 0, none⟩ (.slice Ao812 t453.length co812)).heap[gb3]? = some (.cells #[.slice A4_0 l4_0.length c4_0] 26 (0, 0))) := ⟨bf BK3 NB3_18⟩
    have n4_ : Aside0 ((w811.setCell ⟨gb18, 0, none⟩ (.slice Ao812 t453.length co812)).heap[gb4]? = some (.cells #[.int .i64 a5_0, .int .i64 a5_1, .int .i64 a5_2] 28 (0, 0))) := ⟨bf BK4 NB4_18⟩
    have n5_ : Aside0 ((w811.setCell ⟨gb18, 0, none⟩ (.slice Ao812 t453.length co812)).heap[gb5]? = some (.cells #[.slice A6_0 l6_0.length c6_0] 26 (0, 0))) := ⟨bf BK5 NB5_18⟩
    have n6_ : Aside0 ((w811.setCell ⟨gb18, 0, none⟩ (.slice Ao812 t453.length co812)).heap[gb14]? = some (.cells #[.slice Ao662 t424.length co662] 26 (0, 0))) := ⟨bf BK14 NB14_18⟩
    have n7_ : Aside0 ((w811.setCell ⟨gb18, 0, none⟩ (.slice Ao812 t453.length co812)).heap[gb16]? = some (.cells #[.slice Ao689 t434.length co689] 26 (0, 0))) := ⟨bf BK16 NB16_18⟩
    have n8_ : Aside0 ((w811.setCell ⟨gb18, 0, none⟩ (.slice Ao812 t453.length co812)).heap[gb18]? = some (.cells #[.slice Ao812 t453.length co812] 26 (0, 0))) := ⟨by (with_reducible repeat (first | refine blk_drewN ?_ _ | refine blk_drew ?_ | refine blk_alloc ?_ _)); refine blk_put (cs := #[.slice none 0 0]) ?_ 0 _ rfl; (with_reducible repeat (first | refine blk_drewN ?_ _ | refine blk_drew ?_ | refine blk_alloc ?_ _)); exact BK18.out⟩
    have n9_ : Aside0 (Below w.heap.size w (w811.setCell ⟨gb18, 0, none⟩ (.slice Ao812 t453.length co812))) := ⟨bw HB⟩
    (try clear HO_429000)
    (try clear HO_439000)
    (try clear HO455)
    (try clear BK3)
    (try clear BK4)
    (try clear BK5)
    (try clear BK14)
    (try clear BK16)
    (try clear BK18)
    (try clear HB)
    generalize (w811.setCell ⟨gb18, 0, none⟩ (.slice Ao812 t453.length co812)) = w819 at n0_ n1_ n2_ n3_ n4_ n5_ n6_ n7_ n8_ n9_ ⊢
    have HO_429000 := n0_
    have HO_439000 := n1_
    have HO455 := n2_
    have BK3 := n3_
    have BK4 := n4_
    have BK5 := n5_
    have BK14 := n6_
    have BK16 := n7_
    have BK18 := n8_
    have HB := n9_
    clear n0_ n1_ n2_ n3_ n4_ n5_ n6_ n7_ n8_ n9_
    replace HO_429000 := od HO_429000
    replace HO_439000 := od HO_439000
    replace HO455 := od HO455
    refine md6 BK3 BK4 BK5 BK14 BK16 BK18 ?_
    clear BK3 BK4 BK5 BK14 BK16 BK18
    intro BK3 BK4 BK5 BK14 BK16 BK18
    replace HB := Aside0.mk (below_drew1 HB.out)
    refine startK 21 (S := fun w' => w'.cell? ⟨gb18, 0, none⟩ = some (.slice Ao812 t453.length co812) ∧ w'.cell? ⟨gb3, 0, none⟩ = some (.slice A4_0 l4_0.length c4_0)) (ds := []) laws_FnSnailsHiddenOfAll.tab41 laws_FnSnailsHiddenOfAll.bits41 (hS := ⟨bc BK18 0, bc BK3 0⟩) (h := fun hHeld HT_ HW_ => ?_)
    generalize w819.drew = w820 at HO_429000 HO_439000 HO455 BK3 BK4 BK5 BK14 BK16 BK18 HB hHeld ⊢
    refine pureK HT_ 0 (some 370) ?_
    refine pureK HT_ 1 (some 371) ?_
    refine pureK HT_ 2 (some 372) ?_
    refine pureK HT_ 3 (some 373) ?_
    refine pureK HT_ 5 (some 375) ?_
    refine takeK HT_ HW_ hHeld 4 (some 374) ?_
    refine takeK HT_ HW_ hHeld 6 (some 376) ?_
    refine oneK HT_ 7 (some 377) (fun K hK => ?_)
    refine goes_ Try.func7 (by kernel_rfl) rfl #[.slice Ao812 t453.length co812, .slice A4_0 l4_0.length c4_0] (by rfl) rfl rfl argR ?_
    with_reducible refine (laws_qClues.calls kj647 _ _ t453 _ _ l4_0 false _ ?side1 ?side2 ?side3 ?side4 A756.out).mono ?_
    (case side1 => exact rs HO455)
    (case side2 => exact rl HO455)
    (case side3 => exact cb HR4_0 HB)
    (case side4 => exact HC4_0.out)
    rintro e w' ⟨rfl, ⟨nd, rfl⟩⟩
    refine ⟨_, rfl, ?_⟩
    refine hK.out _ _ ⟨bc BK18 0, bc BK3 0⟩ (fun hHeld => ?_)
    clear hK K
    refine normK (N := some 377) (h := ?_)
    refine pureK HT_ 8 (some 378) ?_
    refine pureK HT_ 9 (some 379) ?_
    refine pureK HT_ 10 (some 380) ?_
    refine offK HT_ 11 (some 381) ?_
    refine offK HT_ 12 (some 382) ?_
    refine offK HT_ 13 (some 383) ?_
    refine offK HT_ 14 (some 384) ?_
    refine offK HT_ 15 (some 385) ?_
    refine offK HT_ 16 (some 386) ?_
    refine offK HT_ 17 (some 387) ?_
    refine offK HT_ 18 (some 388) ?_
    refine offK HT_ 19 (some 389) ?_
    refine pureK HT_ 20 (some 390) ?_
    refine done_ (done_of HT_.out (by kernel_rfl)) ?_
    try go_wp2
    go_ret
    exact ⟨eqR, bw HB⟩
   replace H := iteS H; obtain ⟨c758, H⟩ := H
   have c758b0 : decide (0 ≤ (l4_0.length : Int)) = true := decide_eq_true c758
   have c758b1 : decide (0 ≤ l4_0.length) = true := decide_eq_true (by omega)
   clear c758
   (first | rw [c758b0] | (simp only [i64_w, i32_w]; rw [c758b0]) | skip)
   replace H := iteS H; obtain ⟨c759, H⟩ := H
   have c759b0 : decide ((l4_0.length : Int) < (t424.length : Int)) = true := decide_eq_true c759
   have c759b1 : decide (l4_0.length < t424.length) = true := decide_eq_true (Int.ofNat_lt.mp c759)
   clear c759
   replace H := iteC H; rcases H with ⟨c760, H⟩ | ⟨c760, H⟩
   ·
    have c760b0 : (!(((rd_T28 t424 (l4_0.length : Int)).f0) == a5_0) || (!(((rd_T28 t424 (l4_0.length : Int)).f1) == a5_1) || (!(((rd_T28 t424 (l4_0.length : Int)).f2) == a5_2)))) = true := c760
    clear c760
    obtain rfl := Option.some.inj H
    have hnb761 := up4 NB14_3 NB14_4 NB14_5 NB14_16
    obtain ⟨hcz765_0, hfz765_0⟩ := kc1 BK14
    have hnb766 := up3 NB3_4 NB3_5 NB3_16
    obtain ⟨hcz769_0, hfz769_0⟩ := kc1 BK3
    try go_wp2_with (first | ((with_reducible refine gate_callee (f := 20) rfl ?_); refine goesL_ (some 367) rfl rfl Try.func20 (by kernel_rfl) rfl #[.agg #[.slice Ao662 t424.length co662], .int .i64 (l4_0.length : Int)] rfl argR ?_; (with_reducible refine (impl_DropClue.calls kj647 _ _ t424 (l4_0.length : Int) t453 true _ ?side1 ?side2 A754.out).mono ?_); (case side1 => exact rs HO_429000); (case side2 => exact rl HO_429000); rintro e w770 ⟨v454, rfl, ho0, hb⟩; refine ⟨_, rfl, ?_⟩; have HO455 := Aside0.mk (Kd.R_lower (Kd.R_newB (Kd.R_new' (Kd.R_new' ho0 (Kd.R_lt (ro HO_429000))) (Kd.R_lt (ro HO_439000))) (bk BK4)) (below_size (bw HB))); replace HO_429000 := Aside0.mk (Kd.R_elder' (ro HO_429000) (Kd.R_base ho0) hb); replace HO_439000 := Aside0.mk (Kd.R_elder' (ro HO_439000) (Kd.R_base ho0) hb); refine mv5 hb BK3 BK4 BK5 BK14 BK16 ?_; clear BK3 BK4 BK5 BK14 BK16; intro BK3 BK4 BK5 BK14 BK16; replace HB := kw HB hb; (try clear hb); (try clear ho0)) | ((with_reducible refine gate_dst (N := 65) rfl ?_); (try (refine gate_guard (by rfl) ?_; dsimp only)); refine boxK HB (N := 65) (cs := #[.slice none 0 0]) (t := 26) (h := ?_); clear HB; intro gb18 hg w771 BK18 GW18 GE18 HB hb; replace HO_429000 := ko HO_429000 hb; replace HO_439000 := ko HO_439000 hb; replace HO455 := ko HO455 hb; obtain ⟨NB3_18, NB18_3, NB4_18, NB18_4, NB5_18, NB18_5, NB14_18, NB18_14, NB16_18, NB18_16⟩ := nv5 hg BK3 BK4 BK5 BK14 BK16; refine mv5 hb BK3 BK4 BK5 BK14 BK16 ?_; clear BK3 BK4 BK5 BK14 BK16; intro BK3 BK4 BK5 BK14 BK16; clear hb hg; obtain ⟨Ao772, co772, eo772⟩ := Kd.R_slice HO455.out; subst eo772; have hnb773 := up5 NB18_3 NB18_4 NB18_5 NB18_14 NB18_16; obtain ⟨hcz778_0, hfz778_0⟩ := kc1 BK18))
    have n0_ : Aside0 (Kd.R k28 28 (w771.setCell ⟨gb18, 0, none⟩ (.slice Ao772 t453.length co772)) w.heap.size (fun k_ => some k_ ≠ (.slice Ao689 t434.length co689 : Value).ownBlock ∧ some k_ ≠ (.slice Ao772 t453.length co772 : Value).ownBlock ∧ k_ ≠ gb4) (.slice Ao662 t424.length co662) t424) := ⟨by (with_reducible repeat (first | apply Kd.R_alloc | apply Kd.R_drewN | apply Kd.R_drew)); exact Kd.R_mono (Kd.R_far (p := ⟨gb18, 0, none⟩) (Kd.R_types HO_429000.out BK18.out (by decide)) (fun _ hk => hk.2) (.slice Ao772 t453.length co772)) (fun _ hk => ⟨hk.1.1.1, ⟨hk.1.2, hk.1.1.2⟩⟩)⟩
    have n1_ : Aside0 (Kd.R k28 28 (w771.setCell ⟨gb18, 0, none⟩ (.slice Ao772 t453.length co772)) w.heap.size (fun k_ => some k_ ≠ (.slice Ao662 t424.length co662 : Value).ownBlock ∧ some k_ ≠ (.slice Ao772 t453.length co772 : Value).ownBlock ∧ k_ ≠ gb4) (.slice Ao689 t434.length co689) t434) := ⟨by (with_reducible repeat (first | apply Kd.R_alloc | apply Kd.R_drewN | apply Kd.R_drew)); exact Kd.R_mono (Kd.R_far (p := ⟨gb18, 0, none⟩) (Kd.R_types HO_439000.out BK18.out (by decide)) (fun _ hk => hk.2) (.slice Ao772 t453.length co772)) (fun _ hk => ⟨hk.1.1.1, ⟨hk.1.2, hk.1.1.2⟩⟩)⟩
    have n2_ : Aside0 (Kd.R k28 28 (w771.setCell ⟨gb18, 0, none⟩ (.slice Ao772 t453.length co772)) w.heap.size (fun k_ => some k_ ≠ (.slice Ao662 t424.length co662 : Value).ownBlock ∧ some k_ ≠ (.slice Ao689 t434.length co689 : Value).ownBlock ∧ k_ ≠ gb4) (.slice Ao772 t453.length co772) t453) := ⟨by (with_reducible repeat (first | apply Kd.R_alloc | apply Kd.R_drewN | apply Kd.R_drew)); exact Kd.R_mono (Kd.R_far (p := ⟨gb18, 0, none⟩) (Kd.R_types HO455.out BK18.out (by decide)) (fun _ hk => hk.2) (.slice Ao772 t453.length co772)) (fun _ hk => ⟨hk.1.1.1.2, ⟨hk.1.1.2, hk.1.2⟩⟩)⟩
    have n3_ : Aside0 ((w771.setCell ⟨gb18, 0, none⟩ (.slice Ao772 t453.length co772)).heap[gb3]? = some (.cells #[.slice A4_0 l4_0.length c4_0] 26 (0, 0))) := ⟨bf BK3 NB3_18⟩
    have n4_ : Aside0 ((w771.setCell ⟨gb18, 0, none⟩ (.slice Ao772 t453.length co772)).heap[gb4]? = some (.cells #[.int .i64 a5_0, .int .i64 a5_1, .int .i64 a5_2] 28 (0, 0))) := ⟨bf BK4 NB4_18⟩
    have n5_ : Aside0 ((w771.setCell ⟨gb18, 0, none⟩ (.slice Ao772 t453.length co772)).heap[gb5]? = some (.cells #[.slice A6_0 l6_0.length c6_0] 26 (0, 0))) := ⟨bf BK5 NB5_18⟩
    have n6_ : Aside0 ((w771.setCell ⟨gb18, 0, none⟩ (.slice Ao772 t453.length co772)).heap[gb14]? = some (.cells #[.slice Ao662 t424.length co662] 26 (0, 0))) := ⟨bf BK14 NB14_18⟩
    have n7_ : Aside0 ((w771.setCell ⟨gb18, 0, none⟩ (.slice Ao772 t453.length co772)).heap[gb16]? = some (.cells #[.slice Ao689 t434.length co689] 26 (0, 0))) := ⟨bf BK16 NB16_18⟩
    have n8_ : Aside0 ((w771.setCell ⟨gb18, 0, none⟩ (.slice Ao772 t453.length co772)).heap[gb18]? = some (.cells #[.slice Ao772 t453.length co772] 26 (0, 0))) := ⟨by (with_reducible repeat (first | refine blk_drewN ?_ _ | refine blk_drew ?_ | refine blk_alloc ?_ _)); refine blk_put (cs := #[.slice none 0 0]) ?_ 0 _ rfl; (with_reducible repeat (first | refine blk_drewN ?_ _ | refine blk_drew ?_ | refine blk_alloc ?_ _)); exact BK18.out⟩
    have n9_ : Aside0 (Below w.heap.size w (w771.setCell ⟨gb18, 0, none⟩ (.slice Ao772 t453.length co772))) := ⟨bw HB⟩
    (try clear HO_429000)
    (try clear HO_439000)
    (try clear HO455)
    (try clear BK3)
    (try clear BK4)
    (try clear BK5)
    (try clear BK14)
    (try clear BK16)
    (try clear BK18)
    (try clear HB)
    generalize (w771.setCell ⟨gb18, 0, none⟩ (.slice Ao772 t453.length co772)) = w779 at n0_ n1_ n2_ n3_ n4_ n5_ n6_ n7_ n8_ n9_ ⊢
    have HO_429000 := n0_
    have HO_439000 := n1_
    have HO455 := n2_
    have BK3 := n3_
    have BK4 := n4_
    have BK5 := n5_
    have BK14 := n6_
    have BK16 := n7_
    have BK18 := n8_
    have HB := n9_
    clear n0_ n1_ n2_ n3_ n4_ n5_ n6_ n7_ n8_ n9_
    replace HO_429000 := od HO_429000
    replace HO_439000 := od HO_439000
    replace HO455 := od HO455
    refine md6 BK3 BK4 BK5 BK14 BK16 BK18 ?_
    clear BK3 BK4 BK5 BK14 BK16 BK18
    intro BK3 BK4 BK5 BK14 BK16 BK18
    replace HB := Aside0.mk (below_drew1 HB.out)
    have p459 : 0 ≤ ((l4_0.length : Int) : Int) := of_decide_eq_true (by first | (with_reducible assumption) | assumption)
    have q459 : (l4_0.length : Int) < (t424.length : Int) := of_decide_eq_true (by first | (with_reducible assumption) | assumption)
    obtain ⟨ad459, e459, hx459_0, hx459_1, hx459_2⟩ := at_T28 (Kd.R_reads' HO_429000.out).2.2 (l4_0.length : Int) p459 q459
    cases e459
    (try simp only [Go.IntWalk.toNatUp] at hx459_0)
    (try simp only [Go.IntWalk.toNatUp] at hx459_1)
    (try simp only [Go.IntWalk.toNatUp] at hx459_2)
    replace p459 := eq_true p459
    replace q459 := eq_true q459
    refine startK 21 (S := fun w' => w'.cell? ⟨gb18, 0, none⟩ = some (.slice Ao772 t453.length co772) ∧ w'.cell? ⟨gb3, 0, none⟩ = some (.slice A4_0 l4_0.length c4_0) ∧ w'.cell? ⟨gb14, 0, none⟩ = some (.slice (some ad459) t424.length co662) ∧ w'.cell? ⟨gb4, 0, none⟩ = some (.int .i64 a5_0) ∧ w'.cell? ⟨gb4, 1, none⟩ = some (.int .i64 a5_1) ∧ w'.cell? ⟨gb4, 2, none⟩ = some (.int .i64 a5_2) ∧ w'.cell? (ad459.add (l4_0.length * 3)) = some (.int .i64 ((rd_T28 t424 (l4_0.length : Int)).f0)) ∧ w'.cell? ⟨(ad459.add (l4_0.length * 3)).block, (ad459.add (l4_0.length * 3)).off + 1, none⟩ = some (.int .i64 ((rd_T28 t424 (l4_0.length : Int)).f1)) ∧ w'.cell? ⟨(ad459.add (l4_0.length * 3)).block, (ad459.add (l4_0.length * 3)).off + 2, none⟩ = some (.int .i64 ((rd_T28 t424 (l4_0.length : Int)).f2))) (ds := []) laws_FnSnailsHiddenOfAll.tab41 laws_FnSnailsHiddenOfAll.bits41 (hS := ⟨bc BK18 0, bc BK3 0, bc BK14 0, bc BK4 0, bc BK4 1, bc BK4 2, hx459_0, hx459_1, hx459_2⟩) (h := fun hHeld HT_ HW_ => ?_)
    generalize w779.drew = w780 at HO_429000 HO_439000 HO455 BK3 BK4 BK5 BK14 BK16 BK18 HB hx459_0 hx459_1 hx459_2 hHeld ⊢
    refine pureK HT_ 0 (some 370) ?_
    refine pureK HT_ 1 (some 371) ?_
    refine pureK HT_ 2 (some 372) ?_
    refine pureK HT_ 3 (some 373) ?_
    refine pureK HT_ 5 (some 375) ?_
    refine takeK HT_ HW_ hHeld 4 (some 374) ?_
    refine takeK HT_ HW_ hHeld 6 (some 376) ?_
    refine oneK HT_ 7 (some 377) (fun K hK => ?_)
    refine goes_ Try.func7 (by kernel_rfl) rfl #[.slice Ao772 t453.length co772, .slice A4_0 l4_0.length c4_0] (by rfl) rfl rfl argR ?_
    with_reducible refine (laws_qClues.calls kj647 _ _ t453 _ _ l4_0 true _ ?side1 ?side2 ?side3 ?side4 A756.out).mono ?_
    (case side1 => exact rs HO455)
    (case side2 => exact rl HO455)
    (case side3 => exact cb HR4_0 HB)
    (case side4 => exact HC4_0.out)
    rintro e w' ⟨rfl, ⟨nd, rfl⟩⟩
    refine ⟨_, rfl, ?_⟩
    refine hK.out _ _ ⟨bc BK18 0, bc BK3 0, bc BK14 0, bc BK4 0, bc BK4 1, bc BK4 2, hHeld.2.2.2.2.2.2.1, hHeld.2.2.2.2.2.2.2.1, hHeld.2.2.2.2.2.2.2.2⟩ (fun hHeld => ?_)
    clear hK K
    refine normK (N := some 377) (h := ?_)
    refine pureK HT_ 8 (some 378) ?_
    refine pureK HT_ 9 (some 379) ?_
    refine pureK HT_ 10 (some 380) ?_
    refine pureK HT_ 11 (some 381) ?_
    refine pureK HT_ 13 (some 383) ?_
    refine takeK HT_ HW_ hHeld 12 (some 382) ?_
    refine takeK HT_ HW_ hHeld 14 (some 384) ?_
    refine pureK HT_ 15 (some 385) ?_
    refine pureK HT_ 16 (some 386) ?_
    refine takeK HT_ HW_ hHeld 17 (some 387) ?_
    refine takeK HT_ HW_ hHeld 18 (some 388) ?_
    refine pureK HT_ 19 (some 389) ?_
    refine pureK HT_ 20 (some 390) ?_
    refine done_ (done_of HT_.out (by kernel_rfl)) ?_
    try go_wp2
    go_ret
    exact ⟨eqR, bw HB⟩
   have c760b0 : (!(((rd_T28 t424 (l4_0.length : Int)).f0) == a5_0) || (!(((rd_T28 t424 (l4_0.length : Int)).f1) == a5_1) || (!(((rd_T28 t424 (l4_0.length : Int)).f2) == a5_2)))) = false := by simpa using c760
   clear c760
   have H' := Aside0.mk H
   clear H
   have hnb781 := up4 NB14_3 NB14_4 NB14_5 NB14_16
   obtain ⟨hcz785_0, hfz785_0⟩ := kc1 BK14
   have hnb786 := up3 NB3_4 NB3_5 NB3_16
   obtain ⟨hcz789_0, hfz789_0⟩ := kc1 BK3
   try go_wp2_with (first | ((with_reducible refine gate_callee (f := 20) rfl ?_); refine goesL_ (some 367) rfl rfl Try.func20 (by kernel_rfl) rfl #[.agg #[.slice Ao662 t424.length co662], .int .i64 (l4_0.length : Int)] rfl argR ?_; (with_reducible refine (impl_DropClue.calls kj647 _ _ t424 (l4_0.length : Int) t453 true _ ?side1 ?side2 A754.out).mono ?_); (case side1 => exact rs HO_429000); (case side2 => exact rl HO_429000); rintro e w790 ⟨v454, rfl, ho0, hb⟩; refine ⟨_, rfl, ?_⟩; have HO455 := Aside0.mk (Kd.R_lower (Kd.R_newB (Kd.R_new' (Kd.R_new' ho0 (Kd.R_lt (ro HO_429000))) (Kd.R_lt (ro HO_439000))) (bk BK4)) (below_size (bw HB))); replace HO_429000 := Aside0.mk (Kd.R_elder' (ro HO_429000) (Kd.R_base ho0) hb); replace HO_439000 := Aside0.mk (Kd.R_elder' (ro HO_439000) (Kd.R_base ho0) hb); refine mv5 hb BK3 BK4 BK5 BK14 BK16 ?_; clear BK3 BK4 BK5 BK14 BK16; intro BK3 BK4 BK5 BK14 BK16; replace HB := kw HB hb; (try clear hb); (try clear ho0)) | ((with_reducible refine gate_dst (N := 65) rfl ?_); (try (refine gate_guard (by rfl) ?_; dsimp only)); refine boxK HB (N := 65) (cs := #[.slice none 0 0]) (t := 26) (h := ?_); clear HB; intro gb18 hg w791 BK18 GW18 GE18 HB hb; replace HO_429000 := ko HO_429000 hb; replace HO_439000 := ko HO_439000 hb; replace HO455 := ko HO455 hb; obtain ⟨NB3_18, NB18_3, NB4_18, NB18_4, NB5_18, NB18_5, NB14_18, NB18_14, NB16_18, NB18_16⟩ := nv5 hg BK3 BK4 BK5 BK14 BK16; refine mv5 hb BK3 BK4 BK5 BK14 BK16 ?_; clear BK3 BK4 BK5 BK14 BK16; intro BK3 BK4 BK5 BK14 BK16; clear hb hg; obtain ⟨Ao792, co792, eo792⟩ := Kd.R_slice HO455.out; subst eo792; have hnb793 := up5 NB18_3 NB18_4 NB18_5 NB18_14 NB18_16; obtain ⟨hcz798_0, hfz798_0⟩ := kc1 BK18))
   have n0_ : Aside0 (Kd.R k28 28 (w791.setCell ⟨gb18, 0, none⟩ (.slice Ao792 t453.length co792)) w.heap.size (fun k_ => some k_ ≠ (.slice Ao689 t434.length co689 : Value).ownBlock ∧ some k_ ≠ (.slice Ao792 t453.length co792 : Value).ownBlock ∧ k_ ≠ gb4) (.slice Ao662 t424.length co662) t424) := ⟨by (with_reducible repeat (first | apply Kd.R_alloc | apply Kd.R_drewN | apply Kd.R_drew)); exact Kd.R_mono (Kd.R_far (p := ⟨gb18, 0, none⟩) (Kd.R_types HO_429000.out BK18.out (by decide)) (fun _ hk => hk.2) (.slice Ao792 t453.length co792)) (fun _ hk => ⟨hk.1.1.1, ⟨hk.1.2, hk.1.1.2⟩⟩)⟩
   have n1_ : Aside0 (Kd.R k28 28 (w791.setCell ⟨gb18, 0, none⟩ (.slice Ao792 t453.length co792)) w.heap.size (fun k_ => some k_ ≠ (.slice Ao662 t424.length co662 : Value).ownBlock ∧ some k_ ≠ (.slice Ao792 t453.length co792 : Value).ownBlock ∧ k_ ≠ gb4) (.slice Ao689 t434.length co689) t434) := ⟨by (with_reducible repeat (first | apply Kd.R_alloc | apply Kd.R_drewN | apply Kd.R_drew)); exact Kd.R_mono (Kd.R_far (p := ⟨gb18, 0, none⟩) (Kd.R_types HO_439000.out BK18.out (by decide)) (fun _ hk => hk.2) (.slice Ao792 t453.length co792)) (fun _ hk => ⟨hk.1.1.1, ⟨hk.1.2, hk.1.1.2⟩⟩)⟩
   have n2_ : Aside0 (Kd.R k28 28 (w791.setCell ⟨gb18, 0, none⟩ (.slice Ao792 t453.length co792)) w.heap.size (fun k_ => some k_ ≠ (.slice Ao662 t424.length co662 : Value).ownBlock ∧ some k_ ≠ (.slice Ao689 t434.length co689 : Value).ownBlock ∧ k_ ≠ gb4) (.slice Ao792 t453.length co792) t453) := ⟨by (with_reducible repeat (first | apply Kd.R_alloc | apply Kd.R_drewN | apply Kd.R_drew)); exact Kd.R_mono (Kd.R_far (p := ⟨gb18, 0, none⟩) (Kd.R_types HO455.out BK18.out (by decide)) (fun _ hk => hk.2) (.slice Ao792 t453.length co792)) (fun _ hk => ⟨hk.1.1.1.2, ⟨hk.1.1.2, hk.1.2⟩⟩)⟩
   have n3_ : Aside0 ((w791.setCell ⟨gb18, 0, none⟩ (.slice Ao792 t453.length co792)).heap[gb3]? = some (.cells #[.slice A4_0 l4_0.length c4_0] 26 (0, 0))) := ⟨bf BK3 NB3_18⟩
   have n4_ : Aside0 ((w791.setCell ⟨gb18, 0, none⟩ (.slice Ao792 t453.length co792)).heap[gb4]? = some (.cells #[.int .i64 a5_0, .int .i64 a5_1, .int .i64 a5_2] 28 (0, 0))) := ⟨bf BK4 NB4_18⟩
   have n5_ : Aside0 ((w791.setCell ⟨gb18, 0, none⟩ (.slice Ao792 t453.length co792)).heap[gb5]? = some (.cells #[.slice A6_0 l6_0.length c6_0] 26 (0, 0))) := ⟨bf BK5 NB5_18⟩
   have n6_ : Aside0 ((w791.setCell ⟨gb18, 0, none⟩ (.slice Ao792 t453.length co792)).heap[gb14]? = some (.cells #[.slice Ao662 t424.length co662] 26 (0, 0))) := ⟨bf BK14 NB14_18⟩
   have n7_ : Aside0 ((w791.setCell ⟨gb18, 0, none⟩ (.slice Ao792 t453.length co792)).heap[gb16]? = some (.cells #[.slice Ao689 t434.length co689] 26 (0, 0))) := ⟨bf BK16 NB16_18⟩
   have n8_ : Aside0 ((w791.setCell ⟨gb18, 0, none⟩ (.slice Ao792 t453.length co792)).heap[gb18]? = some (.cells #[.slice Ao792 t453.length co792] 26 (0, 0))) := ⟨by (with_reducible repeat (first | refine blk_drewN ?_ _ | refine blk_drew ?_ | refine blk_alloc ?_ _)); refine blk_put (cs := #[.slice none 0 0]) ?_ 0 _ rfl; (with_reducible repeat (first | refine blk_drewN ?_ _ | refine blk_drew ?_ | refine blk_alloc ?_ _)); exact BK18.out⟩
   have n9_ : Aside0 (Below w.heap.size w (w791.setCell ⟨gb18, 0, none⟩ (.slice Ao792 t453.length co792))) := ⟨bw HB⟩
   (try clear HO_429000)
   (try clear HO_439000)
   (try clear HO455)
   (try clear BK3)
   (try clear BK4)
   (try clear BK5)
   (try clear BK14)
   (try clear BK16)
   (try clear BK18)
   (try clear HB)
   generalize (w791.setCell ⟨gb18, 0, none⟩ (.slice Ao792 t453.length co792)) = w799 at n0_ n1_ n2_ n3_ n4_ n5_ n6_ n7_ n8_ n9_ ⊢
   have HO_429000 := n0_
   have HO_439000 := n1_
   have HO455 := n2_
   have BK3 := n3_
   have BK4 := n4_
   have BK5 := n5_
   have BK14 := n6_
   have BK16 := n7_
   have BK18 := n8_
   have HB := n9_
   clear n0_ n1_ n2_ n3_ n4_ n5_ n6_ n7_ n8_ n9_
   replace HO_429000 := od HO_429000
   replace HO_439000 := od HO_439000
   replace HO455 := od HO455
   refine md6 BK3 BK4 BK5 BK14 BK16 BK18 ?_
   clear BK3 BK4 BK5 BK14 BK16 BK18
   intro BK3 BK4 BK5 BK14 BK16 BK18
   replace HB := Aside0.mk (below_drew1 HB.out)
   have p459 : 0 ≤ ((l4_0.length : Int) : Int) := of_decide_eq_true (by first | (with_reducible assumption) | assumption)
   have q459 : (l4_0.length : Int) < (t424.length : Int) := of_decide_eq_true (by first | (with_reducible assumption) | assumption)
   obtain ⟨ad459, e459, hx459_0, hx459_1, hx459_2⟩ := at_T28 (Kd.R_reads' HO_429000.out).2.2 (l4_0.length : Int) p459 q459
   cases e459
   (try simp only [Go.IntWalk.toNatUp] at hx459_0)
   (try simp only [Go.IntWalk.toNatUp] at hx459_1)
   (try simp only [Go.IntWalk.toNatUp] at hx459_2)
   replace p459 := eq_true p459
   replace q459 := eq_true q459
   refine startK 21 (S := fun w' => w'.cell? ⟨gb18, 0, none⟩ = some (.slice Ao792 t453.length co792) ∧ w'.cell? ⟨gb3, 0, none⟩ = some (.slice A4_0 l4_0.length c4_0) ∧ w'.cell? ⟨gb14, 0, none⟩ = some (.slice (some ad459) t424.length co662) ∧ w'.cell? ⟨gb4, 0, none⟩ = some (.int .i64 a5_0) ∧ w'.cell? ⟨gb4, 1, none⟩ = some (.int .i64 a5_1) ∧ w'.cell? ⟨gb4, 2, none⟩ = some (.int .i64 a5_2) ∧ w'.cell? (ad459.add (l4_0.length * 3)) = some (.int .i64 ((rd_T28 t424 (l4_0.length : Int)).f0)) ∧ w'.cell? ⟨(ad459.add (l4_0.length * 3)).block, (ad459.add (l4_0.length * 3)).off + 1, none⟩ = some (.int .i64 ((rd_T28 t424 (l4_0.length : Int)).f1)) ∧ w'.cell? ⟨(ad459.add (l4_0.length * 3)).block, (ad459.add (l4_0.length * 3)).off + 2, none⟩ = some (.int .i64 ((rd_T28 t424 (l4_0.length : Int)).f2))) (ds := []) laws_FnSnailsHiddenOfAll.tab41 laws_FnSnailsHiddenOfAll.bits41 (hS := ⟨bc BK18 0, bc BK3 0, bc BK14 0, bc BK4 0, bc BK4 1, bc BK4 2, hx459_0, hx459_1, hx459_2⟩) (h := fun hHeld HT_ HW_ => ?_)
   generalize w799.drew = w800 at HO_429000 HO_439000 HO455 BK3 BK4 BK5 BK14 BK16 BK18 HB hx459_0 hx459_1 hx459_2 hHeld ⊢
   refine pureK HT_ 0 (some 370) ?_
   refine pureK HT_ 1 (some 371) ?_
   refine pureK HT_ 2 (some 372) ?_
   refine pureK HT_ 3 (some 373) ?_
   refine pureK HT_ 5 (some 375) ?_
   refine takeK HT_ HW_ hHeld 4 (some 374) ?_
   refine takeK HT_ HW_ hHeld 6 (some 376) ?_
   refine oneK HT_ 7 (some 377) (fun K hK => ?_)
   refine goes_ Try.func7 (by kernel_rfl) rfl #[.slice Ao792 t453.length co792, .slice A4_0 l4_0.length c4_0] (by rfl) rfl rfl argR ?_
   with_reducible refine (laws_qClues.calls kj647 _ _ t453 _ _ l4_0 true _ ?side1 ?side2 ?side3 ?side4 A756.out).mono ?_
   (case side1 => exact rs HO455)
   (case side2 => exact rl HO455)
   (case side3 => exact cb HR4_0 HB)
   (case side4 => exact HC4_0.out)
   rintro e w' ⟨rfl, ⟨nd, rfl⟩⟩
   refine ⟨_, rfl, ?_⟩
   refine hK.out _ _ ⟨bc BK18 0, bc BK3 0, bc BK14 0, bc BK4 0, bc BK4 1, bc BK4 2, hHeld.2.2.2.2.2.2.1, hHeld.2.2.2.2.2.2.2.1, hHeld.2.2.2.2.2.2.2.2⟩ (fun hHeld => ?_)
   clear hK K
   refine normK (N := some 377) (h := ?_)
   refine pureK HT_ 8 (some 378) ?_
   refine pureK HT_ 9 (some 379) ?_
   refine pureK HT_ 10 (some 380) ?_
   refine pureK HT_ 11 (some 381) ?_
   refine pureK HT_ 13 (some 383) ?_
   refine takeK HT_ HW_ hHeld 12 (some 382) ?_
   refine takeK HT_ HW_ hHeld 14 (some 384) ?_
   refine pureK HT_ 15 (some 385) ?_
   refine pureK HT_ 16 (some 386) ?_
   refine takeK HT_ HW_ hHeld 17 (some 387) ?_
   refine takeK HT_ HW_ hHeld 18 (some 388) ?_
   refine pureK HT_ 19 (some 389) ?_
   refine pureK HT_ 20 (some 390) ?_
   refine done_ (done_of HT_.out (by kernel_rfl)) ?_
   try go_wp2
   go_meet
   case rel => exact ⟨_, H', ⟨by have := HJ13.out; have := HJ78.out; have := HJ389.out; have := HJ479.out; have := HJ647.out; first | omega | exact Nat.le_refl _⟩, ⟨by (with_reducible repeat (first | apply Kd.R_alloc | apply Kd.R_drewN | apply Kd.R_drew)); exact Kd.R_mono HO_439000.out (fun _ hk => trivial)⟩, ⟨bk BK5⟩, ⟨bk BK16⟩, ⟨bw HB⟩⟩
  case rest =>
   clear HC752
   obtain ⟨kq, HA, HJ751, HO_439000, BK5, BK16, HB⟩ := hcut
   exact laws_FnSnailsHiddenOfAll.r6 k a0_0 a0_1 a1 a2 A3_0 c3_0 l3_0 A4_0 c4_0 l4_0 a5_0 a5_1 a5_2 A6_0 c6_0 l6_0 a7 a8_0 a8_1 a8_2 a9_0 a9_1 a10_0 a10_1 a10_2 r w HR6_0 HC6_0 t375 t380 gb1 gb2 gb3 gb4 gb5 gb6 gb7 gb8 gb9 gb10 u69 u70 u71 u72 u73 u74 u75 u76 u77 u78 u79 u80 u81 u82 u83 u84 u85 u86 u87 u88 u89 u90 u91 u92 kj13 HJ13 u27 u28 u29 u30 u31 u32 u33 u34 u35 u36 u38 u39 u40 u93 u94 u95 u96 u97 u98 u99 u100 u101 u102 u103 u104 u105 u106 u107 u108 u109 u110 u111 u112 u113 u114 u115 u116 u117 u118 u119 u120 u121 u122 u123 u124 u125 u126 u127 u128 u129 u130 u131 u132 u133 u134 u135 u136 u137 u138 u139 u140 u141 u142 u143 u144 u145 u146 u147 u148 u149 u150 u151 u152 u153 u154 u155 u156 u157 u158 u159 u160 u161 u162 u163 u164 u165 u166 u167 u168 u169 u170 u171 u172 u173 u174 u175 u176 u177 u178 u179 u180 u181 u182 u183 u184 u185 u186 u187 u188 u189 u190 u191 u192 u193 u194 u195 kj78 HJ78 t401 t406 t408 t409 gb12 gb13 u196 u197 u198 u199 u200 u201 u202 u203 u204 u205 u206 u207 u208 u209 u210 u211 u212 u213 u214 u215 u216 u217 u218 u219 u220 u221 u222 u223 u224 u225 u226 u227 u228 kj389 HJ389 u47 u48 u49 u50 u51 u52 u229 u230 u231 u232 u233 u234 u235 u236 u237 u238 u239 u240 u241 u242 u243 u244 u245 u246 u247 u248 u249 u250 u251 u252 u253 u254 u255 u256 u257 u258 u259 u260 u261 u262 u263 u264 u265 u266 u267 u268 u269 u270 u271 u272 u273 u274 u275 kj479 HJ479 t427 t432 t434 t437 t442 t444 t445 t446 t447 gb14 gb15 gb16 NB5_16 Ao689 co689 gb17 u276 u277 u278 u279 u280 u281 u282 u283 u284 u285 u286 u287 u288 u289 u290 u291 u292 u293 u294 u295 u296 u297 u298 u299 u300 u301 u302 u303 u304 u305 u306 u307 u308 u309 u310 u311 u312 u313 u314 u315 u316 u317 u318 u319 u320 u321 u322 u323 u324 u325 u326 u327 u328 u329 u330 u331 u332 u333 u334 u335 u336 u337 u338 u339 u340 u341 u342 u343 u344 u345 u346 u347 u348 u349 u350 u351 u352 u353 u354 u355 u356 u357 u358 u359 kj647 HJ647 _ rfl _ (by assumption) wc u22 u65 u66 u360 u361 u362 u363 u364 u365 u366 u367 u368 u369 u370 u371 u372 u373 u374 u375 u376 u377 u378 u379 u380 u381 u382 u383 u384 u385 u386 u387 u388 u389 u390 kq HA HJ751 HO_439000 BK5 BK16 HB

end Go.Proofs.Ytlpjooijkeadbaa.PH
