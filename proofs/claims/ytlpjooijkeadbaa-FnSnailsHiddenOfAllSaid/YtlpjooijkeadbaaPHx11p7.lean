-- Written by a program of our own (wip/tools/xprint.py) for this claim; Lean checks it.
import Derived.Test.YtlpjooijkeadbaaPHx0
import Derived.Test.YtlpjooijkeadbaaPHx3
import Derived.Test.YtlpjooijkeadbaaPHx4
import Derived.Test.YtlpjooijkeadbaaPHx5
import Derived.Test.YtlpjooijkeadbaaPHx7
import Derived.Test.YtlpjooijkeadbaaPHx8
import Derived.Test.YtlpjooijkeadbaaPHx9
import Derived.Test.YtlpjooijkeadbaaPHx10
import Derived.Test.YtlpjooijkeadbaaKC
namespace Go.Proofs.Ytlpjooijkeadbaa.PH
open Go.RowKit Go.Proofs.YtlpjooijkeadbaaK Go.Proofs.YtlpjooijkeadbaaW.PrintWords Go.Proofs.YtlpjooijkeadbaaW.PrintLast Go.Proofs.YtlpjooijkeadbaaW.PrintMore
attribute [local go_sem] max2_int min2_int max_two min_two max_three min_three max_four min_four   -- for this text's walks alone
set_option linter.unusedVariables false
set_option linter.unusedSimpArgs false

attribute [local go_sem high] eqA28
set_option maxHeartbeats 8000000 in
set_option maxRecDepth 100000 in
theorem laws_FnSnailsHiddenOfAll.r7 (a0_0 a0_1 a1 a2 : Int) (A3_0 : Option Addr) (c3_0 : Nat) (l3_0 : List S28) (A4_0 : Option Addr) (c4_0 : Nat) (l4_0 : List S28) (a5_0 a5_1 a5_2 : Int) (A6_0 : Option Addr) (c6_0 : Nat) (l6_0 : List S28) (a7 a8_0 a8_1 a8_2 a9_0 a9_1 a10_0 a10_1 a10_2 : Int) (r : Bool) (w : World) (HR6_0 : Aside0 (k28.C w A6_0 l6_0.length l6_0)) (HC6_0 : Aside0 (l6_0.length ≤ c6_0)) (t375 t380 : Bool) (gb1 gb2 gb3 gb4 gb5 gb6 gb7 gb8 gb9 gb10 : Nat) (u69 u70 u71 u72 u73 u74 u75 u76 u77 u78 u79 u80 u81 u82 u83 u84 u85 u86 u87 u88 u89 u90 u91 u92 u27 u28 u29 u30 u31 u32 u33 u34 u35 u36 u38 u39 u40 u93 u94 u95 u96 u97 u98 u99 u100 u101 u102 u103 u104 u105 u106 u107 u108 u109 u110 u111 u112 u113 u114 u115 u116 u117 u118 u119 u120 u121 u122 u123 u124 u125 u126 u127 u128 u129 u130 u131 u132 u133 u134 u135 u136 u137 u138 u139 u140 u141 u142 u143 u144 u145 u146 u147 u148 u149 u150 u151 u152 u153 u154 u155 u156 u157 u158 u159 u160 u161 u162 u163 u164 u165 u166 u167 u168 u169 u170 u171 u172 u173 u174 u175 u176 u177 u178 u179 u180 u181 u182 u183 u184 u185 u186 u187 u188 u189 u190 u191 u192 u193 u194 u195 : Value) (t401 t406 t408 t409 : Bool) (gb12 gb13 : Nat) (u196 u197 u198 u199 u200 u201 u202 u203 u204 u205 u206 u207 u208 u209 u210 u211 u212 u213 u214 u215 u216 u217 u218 u219 u220 u221 u222 u223 u224 u225 u226 u227 u228 u47 u48 u49 u50 u51 u52 u229 u230 u231 u232 u233 u234 u235 u236 u237 u238 u239 u240 u241 u242 u243 u244 u245 u246 u247 u248 u249 u250 u251 u252 u253 u254 u255 u256 u257 u258 u259 u260 u261 u262 u263 u264 u265 u266 u267 u268 u269 u270 u271 u272 u273 u274 u275 : Value) (t427 t432 : Bool) (t434 : List S28) (t437 t442 t444 t445 t446 t447 : Bool) (gb14 gb15 gb16 : Nat) (NB5_16 : Aside0 (gb5 ≠ gb16)) (Ao689 : Option Addr) (co689 gb17 : Nat) (u276 u277 u278 u279 u280 u281 u282 u283 u284 u285 u286 u287 u288 u289 u290 u291 u292 u293 u294 u295 u296 u297 u298 u299 u300 u301 u302 u303 u304 u305 u306 u307 u308 u309 u310 u311 u312 u313 u314 u315 u316 u317 u318 u319 u320 u321 u322 u323 u324 u325 u326 u327 u328 u329 u330 u331 u332 u333 u334 u335 u336 u337 u338 u339 u340 u341 u342 u343 u344 u345 u346 u347 u348 u349 u350 u351 u352 u353 u354 u355 u356 u357 u358 u359 u22 u65 u66 u360 u361 u362 u363 u364 u365 u366 u367 u368 u369 u370 u371 u372 u373 u374 u375 u376 u377 u378 u379 u380 u381 u382 u383 u384 u385 u386 u387 u388 u389 u390 : Value) (Qz6 : Exit → Act → World → Prop) (hQz6 : Qz6 = bodyPost Try.prog Try.f3 fun e w' => e = Ending.returned (Value.bool r) ∧ Below w.heap.size w w') (Kz7 : Act → World → Prop) (az8 : ∀ (a : Act) (w : World), Code.wp Try.prog (cAt [1, 1, 1, 1, 1, 1, 1, 1, 1, 1, 1, 1, 1, 1, 1, 1, 1, 1, 1] Try.f3) Qz6 a w → Kz7 a w) (Kz9 : Act → World → Prop) (az10 : ∀ (a : Act) (w : World), Code.wp Try.prog (cAt [1, 1, 1, 1, 1, 1, 1, 1, 1, 1, 1, 1, 1, 1, 1, 1, 1, 1, 0, 1] Try.f3) (Exit.then Kz7 Qz6) a w → Kz9 a w) (wc : World) (u391 u392 u393 u394 u395 u396 u397 u398 : Value) (kq : Nat) (x399_840 : Bool) (HA : Aside0 (j8 kq a7 x399_840 l6_0 t434 = some r)) (HO_439000 : Aside0 (k28.R 28 wc w.heap.size (fun x => True) (Value.slice Ao689 t434.length co689) t434)) (BK5 : Aside0 (wc.heap[gb5]? = some (Obj.cells #[Value.slice A6_0 l6_0.length c6_0] 26))) (BK16 : Aside0 (wc.heap[gb16]? = some (Obj.cells #[Value.slice Ao689 t434.length co689] 26))) (HB : Aside0 (Below w.heap.size w wc)) :
    Kz9 { tmps := #[Value.agg #[Value.int IntKind.i64 a0_0, Value.int IntKind.i64 a0_1], Value.int IntKind.i64 a1, Value.int IntKind.i64 a2, Value.agg #[Value.slice A3_0 l3_0.length c3_0], Value.agg #[Value.slice A4_0 l4_0.length c4_0], Value.agg #[Value.int IntKind.i64 a5_0, Value.int IntKind.i64 a5_1, Value.int IntKind.i64 a5_2], Value.agg #[Value.slice A6_0 l6_0.length c6_0], Value.int IntKind.i64 a7, Value.agg #[Value.int IntKind.i64 a8_0, Value.int IntKind.i64 a8_1, Value.int IntKind.i64 a8_2], Value.agg #[Value.int IntKind.i64 a9_0, Value.int IntKind.i64 a9_1], Value.agg #[Value.int IntKind.i64 a10_0, Value.int IntKind.i64 a10_1, Value.int IntKind.i64 a10_2], Value.pointer (some { block := gb1, off := 0 }), undef, undef, Value.pointer (some { block := gb2, off := 0 }), Value.pointer (some { block := gb3, off := 0 }), Value.pointer (some { block := gb4, off := 0 }), Value.pointer (some { block := gb5, off := 0 }), undef, Value.pointer (some { block := gb6, off := 0 }), Value.pointer (some { block := gb7, off := 0 }), Value.pointer (some { block := gb8, off := 0 }), u22, Value.pointer (some { block := gb9, off := 0 }), Value.bool t375, Value.pointer (some { block := gb10, off := 0 }), Value.bool t380, u27, u28, u29, u30, u31, u32, u33, u34, u35, u36, undef, u38, u39, u40, Value.pointer (some { block := gb12, off := 0 }), Value.bool t401, Value.pointer (some { block := gb13, off := 0 }), Value.bool t406, Value.bool t408, Value.bool t409, u47, u48, u49, u50, u51, u52, Value.pointer (some { block := gb14, off := 0 }), Value.bool t427, Value.pointer (some { block := gb15, off := 0 }), Value.bool t432, Value.pointer (some { block := gb16, off := 0 }), Value.bool t437, Value.pointer (some { block := gb17, off := 0 }), Value.bool t442, Value.bool t444, Value.bool t445, Value.bool t446, Value.bool t447, u65, u66, undef, undef, u69, u70, u71, u72, u73, u74, u75, u76, u77, u78, u79, u80, u81, u82, u83, u84, u85, u86, u87, u88, u89, u90, u91, u92, u93, u94, u95, u96, u97, u98, u99, u100, u101, u102, u103, u104, u105, u106, u107, u108, u109, u110, u111, u112, u113, u114, u115, u116, u117, u118, u119, u120, u121, u122, u123, u124, u125, u126, u127, u128, u129, u130, u131, u132, u133, u134, u135, u136, u137, u138, u139, u140, u141, u142, u143, u144, u145, u146, u147, u148, u149, u150, u151, u152, u153, u154, u155, u156, u157, u158, u159, u160, u161, u162, u163, u164, u165, u166, u167, u168, u169, u170, u171, u172, u173, u174, u175, u176, u177, u178, u179, u180, u181, u182, u183, u184, u185, u186, u187, u188, u189, u190, u191, u192, u193, u194, u195, u196, u197, u198, u199, u200, u201, u202, u203, u204, u205, u206, u207, u208, u209, u210, u211, u212, u213, u214, u215, u216, u217, u218, u219, u220, u221, u222, u223, u224, u225, u226, u227, u228, u229, u230, u231, u232, u233, u234, u235, u236, u237, u238, u239, u240, u241, u242, u243, u244, u245, u246, u247, u248, u249, u250, u251, u252, u253, u254, u255, u256, u257, u258, u259, u260, u261, u262, u263, u264, u265, u266, u267, u268, u269, u270, u271, u272, u273, u274, u275, u276, u277, u278, u279, u280, u281, u282, u283, u284, u285, u286, u287, u288, u289, u290, u291, u292, u293, u294, u295, u296, u297, u298, u299, u300, u301, u302, u303, u304, u305, u306, u307, u308, u309, u310, u311, u312, u313, u314, u315, u316, u317, u318, u319, u320, u321, u322, u323, u324, u325, u326, u327, u328, u329, u330, u331, u332, u333, u334, u335, u336, u337, u338, u339, u340, u341, u342, u343, u344, u345, u346, u347, u348, u349, u350, u351, u352, u353, u354, u355, u356, u357, u358, u359, u360, u361, u362, u363, u364, u365, u366, u367, u368, u369, u370, u371, u372, u373, u374, u375, u376, u377, u378, u379, u380, u381, u382, u383, u384, u385, u386, u387, u388, u389, u390, u391, u392, u393, u394, u395, u396, u397, u398, Value.bool x399_840, undef, undef, undef, undef, undef, undef, undef, undef, undef, undef, undef, undef, undef, undef, undef, undef, undef, undef], defers := [] } wc := by
 subst hQz6
 (try dsimp only)
 conv at az8 => ext a w; lhs; arg 2; whnf
 conv at az10 => ext a w; lhs; arg 2; whnf
 cases kq with
 | zero => exact absurd HA.out (by simp [laws_FnSnailsHiddenOfAll.j8])
 | succ kj840 =>
  have H := HA.out
  clear HA
  simp only [laws_FnSnailsHiddenOfAll.j8] at H
  replace H := iteB H; rcases H with ⟨rfl, H⟩ | ⟨rfl, H⟩
  rotate_left
  ·
   obtain rfl := Option.some.inj H
   go_wp2
   go_ret
   exact ⟨eqR, bw HB⟩
  replace H := iteS H; obtain ⟨c846, H⟩ := H
  have c846b0 : decide (0 ≤ a7) = true := decide_eq_true c846
  clear c846
  replace H := iteS H; obtain ⟨c847, H⟩ := H
  have c847b0 : decide (a7 < (l6_0.length : Int)) = true := decide_eq_true c847
  clear c847
  replace H := bindS H; obtain ⟨⟨t461, t464⟩, A848, H⟩ := H
  replace H := iteB H; rcases H with ⟨rfl, H⟩ | ⟨rfl, H⟩
  rotate_left
  ·
   obtain rfl := Option.some.inj H
   try go_wp2
   replace HO_439000 := od HO_439000
   refine md2 BK5 BK16 ?_
   clear BK5 BK16
   intro BK5 BK16
   replace HB := Aside0.mk (below_drew1 HB.out)
   have p460 : 0 ≤ (a7 : Int) := of_decide_eq_true (by first | (with_reducible assumption) | assumption)
   have q460 : a7 < (l6_0.length : Int) := of_decide_eq_true (by first | (with_reducible assumption) | assumption)
   obtain ⟨ad460, e460, hx460_0, hx460_1, hx460_2⟩ := at_T28 HR6_0.out a7 p460 q460
   have hw460_2 := hx460_2
   have hw460_1 := hx460_1
   have hw460_0 := hx460_0
   cases e460
   replace hx460_0 := (HB.out.cell (World.block_lt_of_cell? w _ hx460_0)).trans hx460_0
   replace hx460_1 := (HB.out.cell (World.block_lt_of_cell? w _ hx460_1)).trans hx460_1
   replace hx460_2 := (HB.out.cell (World.block_lt_of_cell? w _ hx460_2)).trans hx460_2
   replace p460 := eq_true p460
   replace q460 := eq_true q460
   refine startK 13 (S := fun w' => w'.cell? ⟨gb16, 0, none⟩ = some (.slice Ao689 t434.length co689) ∧ w'.cell? ⟨gb5, 0, none⟩ = some (.slice (some ad460) l6_0.length c6_0) ∧ w'.cell? (ad460.add ((a7).toNat * 3)) = some (.int .i64 ((rd_T28 l6_0 a7).f0)) ∧ w'.cell? ⟨(ad460.add ((a7).toNat * 3)).block, (ad460.add ((a7).toNat * 3)).off + 1, none⟩ = some (.int .i64 ((rd_T28 l6_0 a7).f1)) ∧ w'.cell? ⟨(ad460.add ((a7).toNat * 3)).block, (ad460.add ((a7).toNat * 3)).off + 2, none⟩ = some (.int .i64 ((rd_T28 l6_0 a7).f2))) (ds := []) laws_FnSnailsHiddenOfAll.tab44 laws_FnSnailsHiddenOfAll.bits44 (hS := ⟨bc BK16 0, bc BK5 0, ((HB.out.cell (World.block_lt_of_cell? w _ hw460_0)).trans hw460_0), ((HB.out.cell (World.block_lt_of_cell? w _ hw460_1)).trans hw460_1), ((HB.out.cell (World.block_lt_of_cell? w _ hw460_2)).trans hw460_2)⟩) (h := fun hHeld HT_ HW_ => ?_)
   generalize wc.drew = w862 at HO_439000 BK5 BK16 HB hx460_0 hx460_1 hx460_2 hHeld ⊢
   refine pureK HT_ 1 (some 402) ?_
   refine pureK HT_ 3 (some 404) ?_
   refine takeK HT_ HW_ hHeld 0 (some 401) ?_
   refine takeK HT_ HW_ hHeld 2 (some 403) ?_
   refine pureK HT_ 4 (some 405) ?_
   refine takeK HT_ HW_ hHeld 5 (some 406) ?_
   refine join_ (σ := Value × Nat) 2 #[true, true, true, true, true, true, true, true, true, true, true, false, false] (fun s_ => [(407, .tuple #[.agg #[s_.1], .bool false]), (67, .pointer (some ⟨s_.2, 0, none⟩)), (400, .tuple #[.agg #[s_.1], .bool false]), (408, .agg #[s_.1]), (409, .bool false)]) (fun s_ w' => (w'.cell? ⟨gb16, 0, none⟩ = some (.slice Ao689 t434.length co689) ∧ w'.cell? ⟨gb5, 0, none⟩ = some (.slice (some ad460) l6_0.length c6_0) ∧ w'.cell? (ad460.add ((a7).toNat * 3)) = some (.int .i64 ((rd_T28 l6_0 a7).f0)) ∧ w'.cell? ⟨(ad460.add ((a7).toNat * 3)).block, (ad460.add ((a7).toNat * 3)).off + 1, none⟩ = some (.int .i64 ((rd_T28 l6_0 a7).f1)) ∧ w'.cell? ⟨(ad460.add ((a7).toNat * 3)).block, (ad460.add ((a7).toNat * 3)).off + 2, none⟩ = some (.int .i64 ((rd_T28 l6_0 a7).f2))) ∧ (Kd.R k28 28 w' w.heap.size (fun k_ => some k_ ≠ (.slice Ao689 t434.length co689 : Value).ownBlock) s_.1 t461) ∧ (Kd.R k28 28 w' w.heap.size (fun k_ => some k_ ≠ (s_.1 : Value).ownBlock) (.slice Ao689 t434.length co689) t434) ∧ (w'.heap[gb5]? = some (.cells #[.slice (some ad460) l6_0.length c6_0] 26 (0, 0))) ∧ (w'.heap[gb16]? = some (.cells #[.slice Ao689 t434.length co689] 26 (0, 0))) ∧ (w'.heap[s_.2]? = some (.cells #[.slice none 0 0] 26 (0, 0))) ∧ (w.heap.size ≤ s_.2) ∧ (w.heap.size ≤ s_.2) ∧ (gb5 ≠ s_.2) ∧ (s_.2 ≠ gb5) ∧ (gb16 ≠ s_.2) ∧ (s_.2 ≠ gb16) ∧ (Below w.heap.size w w')) ?_ ?_
   rotate_left
   ·
    intro hCont
    refine two_ (i := 6) (j := 10) (Ni := some 407) (Nj := some 67) #[true, true, true, true, true, true, true, false, false, false, false, false, false] #[true, true, true, true, true, true, false, false, false, false, true, false, false] rfl rfl rfl rfl (two_of HT_.out (by kernel_rfl)) (by decide) (by decide) (fun K hK => ?_) (fun K hK => ?_)
    ·
     skip
     refine goes_ Try.func18 (by kernel_rfl) rfl #[.agg #[.slice Ao689 t434.length co689], .agg #[.int .i64 ((rd_T28 l6_0 a7).f0), .int .i64 ((rd_T28 l6_0 a7).f1), .int .i64 ((rd_T28 l6_0 a7).f2)]] (by rfl) rfl rfl argR ?_
     with_reducible refine (impl_AddClue.calls kj840 _ _ t434 ((rd_T28 l6_0 a7).f0) ((rd_T28 l6_0 a7).f1) ((rd_T28 l6_0 a7).f2) t461 false _ ?side1 ?side2 A848.out).mono ?_
     (case side1 => exact rs HO_439000)
     (case side2 => exact rl HO_439000)
     rintro e w863 ⟨v462, rfl, ho0, hb⟩
     refine ⟨_, rfl, ?_⟩
     have HO463 := Aside0.mk (Kd.R_lower (Kd.R_new' ho0 (Kd.R_lt (ro HO_439000))) (below_size (bw HB)))
     replace HO_439000 := Aside0.mk (Kd.R_elder' (ro HO_439000) (Kd.R_base ho0) hb)
     refine mv2 hb BK5 BK16 ?_
     clear BK5 BK16
     intro BK5 BK16
     replace HB := kw HB hb
     (try clear hb)
     (try clear hb2)
     (try clear hk)
     (try clear hi)
     (try clear ho0)
     refine hK.out _ _ ⟨bc BK16 0, bc BK5 0, ((HB.out.cell (World.block_lt_of_cell? w _ hw460_0)).trans hw460_0), ((HB.out.cell (World.block_lt_of_cell? w _ hw460_1)).trans hw460_1), ((HB.out.cell (World.block_lt_of_cell? w _ hw460_2)).trans hw460_2)⟩ (fun hHeld => ?_)
     clear hK K
     refine normK (N := some 407) (h := ?_)
     refine pureK HT_ 7 (some 400) ?_
     refine pureK HT_ 8 (some 408) ?_
     refine pureK HT_ 9 (some 409) ?_
     refine oneK HT_ 10 (some 67) (fun K hK => ?_)
     refine box_step ?hg (N := 67) ?hd (cs := #[.slice none 0 0]) (t := 26) ?hr ?_; (case hd => rfl); (case hg => rfl); (case hr => first | (go_simp; done) | (go_simp; rfl))
     intro gb19 hg w864 hbox hb
     replace HO_439000 := ko HO_439000 hb
     replace HO463 := ko HO463 hb
     have BK19 := Aside0.mk (hbox)
     have GW19 := gw HB hg
     have GE19 := gw HB hg
     replace HB := kw HB hb
     obtain ⟨NB5_19, NB19_5, NB16_19, NB19_16⟩ := nv2 hg BK5 BK16
     refine mv2 hb BK5 BK16 ?_
     clear BK5 BK16
     intro BK5 BK16
     clear hb hbox hg
     refine hK.out _ _ ⟨bc BK16 0, bc BK5 0, ((HB.out.cell (World.block_lt_of_cell? w _ hw460_0)).trans hw460_0), ((HB.out.cell (World.block_lt_of_cell? w _ hw460_1)).trans hw460_1), ((HB.out.cell (World.block_lt_of_cell? w _ hw460_2)).trans hw460_2)⟩ (fun hHeld => ?_)
     clear hK K
     refine normK (N := some 67) (h := ?_)
     exact norm_ (by simp only [putAll, Act.put, List.setIfInBounds_toArray, List.set_cons_zero, List.set_cons_succ]) (hCont (v462, gb19) _ ⟨hHeld, (by (with_reducible repeat (first | apply Kd.R_alloc | apply Kd.R_drewN | apply Kd.R_drew)); exact Kd.R_mono HO463.out (fun _ hk => hk.2)), (by (with_reducible repeat (first | apply Kd.R_alloc | apply Kd.R_drewN | apply Kd.R_drew)); exact Kd.R_mono HO_439000.out (fun _ hk => hk.2)), (bk BK5), (bk BK16), (bk BK19), GW19.out, GE19.out, NB5_19.out, NB19_5.out, NB16_19.out, NB19_16.out, (bw HB)⟩)
    skip
    refine box_step ?hg (N := 67) ?hd (cs := #[.slice none 0 0]) (t := 26) ?hr ?_; (case hd => rfl); (case hg => rfl); (case hr => first | (go_simp; done) | (go_simp; rfl))
    intro gb19 hg w863 hbox hb
    replace HO_439000 := ko HO_439000 hb
    have BK19 := Aside0.mk (hbox)
    have GW19 := gw HB hg
    have GE19 := gw HB hg
    replace HB := kw HB hb
    obtain ⟨NB5_19, NB19_5, NB16_19, NB19_16⟩ := nv2 hg BK5 BK16
    refine mv2 hb BK5 BK16 ?_
    clear BK5 BK16
    intro BK5 BK16
    clear hb hbox hg
    refine hK.out _ _ ⟨bc BK16 0, bc BK5 0, ((HB.out.cell (World.block_lt_of_cell? w _ hw460_0)).trans hw460_0), ((HB.out.cell (World.block_lt_of_cell? w _ hw460_1)).trans hw460_1), ((HB.out.cell (World.block_lt_of_cell? w _ hw460_2)).trans hw460_2)⟩ (fun hHeld => ?_)
    clear hK K
    refine normK (N := some 67) (h := ?_)
    refine oneK HT_ 6 (some 407) (fun K hK => ?_)
    refine goes_ Try.func18 (by kernel_rfl) rfl #[.agg #[.slice Ao689 t434.length co689], .agg #[.int .i64 ((rd_T28 l6_0 a7).f0), .int .i64 ((rd_T28 l6_0 a7).f1), .int .i64 ((rd_T28 l6_0 a7).f2)]] (by rfl) rfl rfl argR ?_
    with_reducible refine (impl_AddClue.calls kj840 _ _ t434 ((rd_T28 l6_0 a7).f0) ((rd_T28 l6_0 a7).f1) ((rd_T28 l6_0 a7).f2) t461 false _ ?side1 ?side2 A848.out).mono ?_
    (case side1 => exact rs HO_439000)
    (case side2 => exact rl HO_439000)
    rintro e w864 ⟨v462, rfl, ho0, hb⟩
    refine ⟨_, rfl, ?_⟩
    have HO463 := Aside0.mk (Kd.R_lower (Kd.R_new' ho0 (Kd.R_lt (ro HO_439000))) (below_size (bw HB)))
    replace HO_439000 := Aside0.mk (Kd.R_elder' (ro HO_439000) (Kd.R_base ho0) hb)
    refine mv3 hb BK5 BK16 BK19 ?_
    clear BK5 BK16 BK19
    intro BK5 BK16 BK19
    replace HB := kw HB hb
    (try clear hb)
    (try clear hb2)
    (try clear hk)
    (try clear hi)
    (try clear ho0)
    refine hK.out _ _ ⟨bc BK16 0, bc BK5 0, ((HB.out.cell (World.block_lt_of_cell? w _ hw460_0)).trans hw460_0), ((HB.out.cell (World.block_lt_of_cell? w _ hw460_1)).trans hw460_1), ((HB.out.cell (World.block_lt_of_cell? w _ hw460_2)).trans hw460_2)⟩ (fun hHeld => ?_)
    clear hK K
    refine normK (N := some 407) (h := ?_)
    refine pureK HT_ 7 (some 400) ?_
    refine pureK HT_ 8 (some 408) ?_
    refine pureK HT_ 9 (some 409) ?_
    exact norm_ (by simp only [putAll, Act.put, List.setIfInBounds_toArray, List.set_cons_zero, List.set_cons_succ]) (hCont (v462, gb19) _ ⟨hHeld, (by (with_reducible repeat (first | apply Kd.R_alloc | apply Kd.R_drewN | apply Kd.R_drew)); exact Kd.R_mono HO463.out (fun _ hk => hk.2)), (by (with_reducible repeat (first | apply Kd.R_alloc | apply Kd.R_drewN | apply Kd.R_drew)); exact Kd.R_mono HO_439000.out (fun _ hk => hk.2)), (bk BK5), (bk BK16), (bk BK19), GW19.out, GE19.out, NB5_19.out, NB19_5.out, NB16_19.out, NB19_16.out, (bw HB)⟩)
   rintro ⟨v462, gb19⟩ w865 ⟨hS_, h0_, h1_, h2_, h3_, h4_, h5_, h6_, h7_, h8_, h9_, h10_, h11_⟩
   have n0_ : Aside0 (Kd.R k28 28 w865 w.heap.size (fun k_ => some k_ ≠ (.slice Ao689 t434.length co689 : Value).ownBlock) v462 t461) := ⟨h0_⟩
   have n1_ : Aside0 (Kd.R k28 28 w865 w.heap.size (fun k_ => some k_ ≠ (v462 : Value).ownBlock) (.slice Ao689 t434.length co689) t434) := ⟨h1_⟩
   have n2_ : Aside0 (w865.heap[gb5]? = some (.cells #[.slice (some ad460) l6_0.length c6_0] 26 (0, 0))) := ⟨h2_⟩
   have n3_ : Aside0 (w865.heap[gb16]? = some (.cells #[.slice Ao689 t434.length co689] 26 (0, 0))) := ⟨h3_⟩
   have n4_ : Aside0 (w865.heap[gb19]? = some (.cells #[.slice none 0 0] 26 (0, 0))) := ⟨h4_⟩
   have n5_ : Aside0 (w.heap.size ≤ gb19) := ⟨h5_⟩
   have n6_ : Aside0 (w.heap.size ≤ gb19) := ⟨h6_⟩
   have n7_ : Aside0 (gb5 ≠ gb19) := ⟨h7_⟩
   have n8_ : Aside0 (gb19 ≠ gb5) := ⟨h8_⟩
   have n9_ : Aside0 (gb16 ≠ gb19) := ⟨h9_⟩
   have n10_ : Aside0 (gb19 ≠ gb16) := ⟨h10_⟩
   have n11_ : Aside0 (Below w.heap.size w w865) := ⟨h11_⟩
   clear HO_439000
   clear BK5
   clear BK16
   clear HB
   clear h0_ h1_ h2_ h3_ h4_ h5_ h6_ h7_ h8_ h9_ h10_ h11_
   have HO463 := n0_
   have HO_439000 := n1_
   have BK5 := n2_
   have BK16 := n3_
   have BK19 := n4_
   have GW19 := n5_
   have GE19 := n6_
   have NB5_19 := n7_
   have NB19_5 := n8_
   have NB16_19 := n9_
   have NB19_16 := n10_
   have HB := n11_
   clear n0_ n1_ n2_ n3_ n4_ n5_ n6_ n7_ n8_ n9_ n10_ n11_
   have hHeld : w865.cell? ⟨gb16, 0, none⟩ = some (.slice Ao689 t434.length co689) ∧ w865.cell? ⟨gb5, 0, none⟩ = some (.slice (some ad460) l6_0.length c6_0) ∧ w865.cell? (ad460.add ((a7).toNat * 3)) = some (.int .i64 ((rd_T28 l6_0 a7).f0)) ∧ w865.cell? ⟨(ad460.add ((a7).toNat * 3)).block, (ad460.add ((a7).toNat * 3)).off + 1, none⟩ = some (.int .i64 ((rd_T28 l6_0 a7).f1)) ∧ w865.cell? ⟨(ad460.add ((a7).toNat * 3)).block, (ad460.add ((a7).toNat * 3)).off + 2, none⟩ = some (.int .i64 ((rd_T28 l6_0 a7).f2)) := hS_
   obtain ⟨Ao866, co866, eo866⟩ := Kd.R_slice HO463.out
   (first | subst eo866 | (injection eo866 with f1_ f2_ f3_; have f4_ := f1_.symm; have f5_ := f3_.symm; clear f1_ f2_ f3_; subst f4_; subst f5_))
   refine norm_ (a' := ?_) ?_ ?_
   rotate_left
   ·
    simp only [putAll, Act.put, List.setIfInBounds_toArray, List.set_cons_zero, List.set_cons_succ]
    rfl
   refine oneK HT_ 11 none (fun K hK => ?_)
   have hs867 : w865.cell? ⟨gb19, 0, none⟩ = some (.slice none 0 0) := bc BK19 0
   have hfs867 := blk_frozen BK19.out 0
   have hns867_0 := NB5_19.out
   have hns867_1 := NB16_19.out
   have hms867_0 := NB19_5.out
   have hms867_1 := NB19_16.out
   refine skip_ (w1 := ?_) (by rfl) rfl ?_ ?_
   rotate_left
   ·
    go_simp
    rfl
   refine hK.out _ _ ⟨((cell_far (p := ⟨gb19, _, none⟩) NB16_19.out _).trans (hHeld.1)), ((cell_far (p := ⟨gb19, _, none⟩) NB5_19.out _).trans (hHeld.2.1)), ((cell_far (p := ⟨gb19, _, none⟩) (by first | exact Nat.ne_of_lt (Nat.lt_of_lt_of_le (by have := World.block_lt_of_cell? _ _ hw460_0; first | rwa [add_block] at this | exact this) GW19.out) | (rw [add_block]; exact Nat.ne_of_lt (Nat.lt_of_lt_of_le (by have := World.block_lt_of_cell? _ _ hw460_0; first | rwa [add_block] at this | exact this) GW19.out)) | (show (Addr.add _ _).block ≠ _; rw [add_block]; exact Nat.ne_of_lt (Nat.lt_of_lt_of_le (by have := World.block_lt_of_cell? _ _ hw460_0; first | rwa [add_block] at this | exact this) GW19.out)) | (dsimp only; exact Nat.ne_of_lt (Nat.lt_of_lt_of_le (by have := World.block_lt_of_cell? _ _ hw460_0; first | rwa [add_block] at this | exact this) GW19.out))) _).trans (hHeld.2.2.1)), ((cell_far (p := ⟨gb19, _, none⟩) (by first | exact Nat.ne_of_lt (Nat.lt_of_lt_of_le (by have := World.block_lt_of_cell? _ _ hw460_1; first | rwa [add_block] at this | exact this) GW19.out) | (rw [add_block]; exact Nat.ne_of_lt (Nat.lt_of_lt_of_le (by have := World.block_lt_of_cell? _ _ hw460_1; first | rwa [add_block] at this | exact this) GW19.out)) | (show (Addr.add _ _).block ≠ _; rw [add_block]; exact Nat.ne_of_lt (Nat.lt_of_lt_of_le (by have := World.block_lt_of_cell? _ _ hw460_1; first | rwa [add_block] at this | exact this) GW19.out)) | (dsimp only; exact Nat.ne_of_lt (Nat.lt_of_lt_of_le (by have := World.block_lt_of_cell? _ _ hw460_1; first | rwa [add_block] at this | exact this) GW19.out))) _).trans (hHeld.2.2.2.1)), ((cell_far (p := ⟨gb19, _, none⟩) (by first | exact Nat.ne_of_lt (Nat.lt_of_lt_of_le (by have := World.block_lt_of_cell? _ _ hw460_2; first | rwa [add_block] at this | exact this) GW19.out) | (rw [add_block]; exact Nat.ne_of_lt (Nat.lt_of_lt_of_le (by have := World.block_lt_of_cell? _ _ hw460_2; first | rwa [add_block] at this | exact this) GW19.out)) | (show (Addr.add _ _).block ≠ _; rw [add_block]; exact Nat.ne_of_lt (Nat.lt_of_lt_of_le (by have := World.block_lt_of_cell? _ _ hw460_2; first | rwa [add_block] at this | exact this) GW19.out)) | (dsimp only; exact Nat.ne_of_lt (Nat.lt_of_lt_of_le (by have := World.block_lt_of_cell? _ _ hw460_2; first | rwa [add_block] at this | exact this) GW19.out))) _).trans (hHeld.2.2.2.2))⟩ (fun hHeld => ?_)
   clear hK K
   refine pureK HT_ 12 (some 68) ?_
   refine done_ (done_of HT_.out (by kernel_rfl)) ?_
   try go_wp2
   go_ret
   exact ⟨eqR, bw HB⟩
  replace H := bindS H; obtain ⟨t466, A850, H⟩ := H
  obtain rfl := Option.some.inj H
  try go_wp2
  replace HO_439000 := od HO_439000
  refine md2 BK5 BK16 ?_
  clear BK5 BK16
  intro BK5 BK16
  replace HB := Aside0.mk (below_drew1 HB.out)
  have p460 : 0 ≤ (a7 : Int) := of_decide_eq_true (by first | (with_reducible assumption) | assumption)
  have q460 : a7 < (l6_0.length : Int) := of_decide_eq_true (by first | (with_reducible assumption) | assumption)
  obtain ⟨ad460, e460, hx460_0, hx460_1, hx460_2⟩ := at_T28 HR6_0.out a7 p460 q460
  have hw460_2 := hx460_2
  have hw460_1 := hx460_1
  have hw460_0 := hx460_0
  cases e460
  replace hx460_0 := (HB.out.cell (World.block_lt_of_cell? w _ hx460_0)).trans hx460_0
  replace hx460_1 := (HB.out.cell (World.block_lt_of_cell? w _ hx460_1)).trans hx460_1
  replace hx460_2 := (HB.out.cell (World.block_lt_of_cell? w _ hx460_2)).trans hx460_2
  replace p460 := eq_true p460
  replace q460 := eq_true q460
  refine startK 13 (S := fun w' => w'.cell? ⟨gb16, 0, none⟩ = some (.slice Ao689 t434.length co689) ∧ w'.cell? ⟨gb5, 0, none⟩ = some (.slice (some ad460) l6_0.length c6_0) ∧ w'.cell? (ad460.add ((a7).toNat * 3)) = some (.int .i64 ((rd_T28 l6_0 a7).f0)) ∧ w'.cell? ⟨(ad460.add ((a7).toNat * 3)).block, (ad460.add ((a7).toNat * 3)).off + 1, none⟩ = some (.int .i64 ((rd_T28 l6_0 a7).f1)) ∧ w'.cell? ⟨(ad460.add ((a7).toNat * 3)).block, (ad460.add ((a7).toNat * 3)).off + 2, none⟩ = some (.int .i64 ((rd_T28 l6_0 a7).f2))) (ds := []) laws_FnSnailsHiddenOfAll.tab44 laws_FnSnailsHiddenOfAll.bits44 (hS := ⟨bc BK16 0, bc BK5 0, ((HB.out.cell (World.block_lt_of_cell? w _ hw460_0)).trans hw460_0), ((HB.out.cell (World.block_lt_of_cell? w _ hw460_1)).trans hw460_1), ((HB.out.cell (World.block_lt_of_cell? w _ hw460_2)).trans hw460_2)⟩) (h := fun hHeld HT_ HW_ => ?_)
  generalize wc.drew = w851 at HO_439000 BK5 BK16 HB hx460_0 hx460_1 hx460_2 hHeld ⊢
  refine pureK HT_ 1 (some 402) ?_
  refine pureK HT_ 3 (some 404) ?_
  refine takeK HT_ HW_ hHeld 0 (some 401) ?_
  refine takeK HT_ HW_ hHeld 2 (some 403) ?_
  refine pureK HT_ 4 (some 405) ?_
  refine takeK HT_ HW_ hHeld 5 (some 406) ?_
  refine join_ (σ := Value × Nat) 2 #[true, true, true, true, true, true, true, true, true, true, true, false, false] (fun s_ => [(407, .tuple #[.agg #[s_.1], .bool true]), (67, .pointer (some ⟨s_.2, 0, none⟩)), (400, .tuple #[.agg #[s_.1], .bool true]), (408, .agg #[s_.1]), (409, .bool true)]) (fun s_ w' => (w'.cell? ⟨gb16, 0, none⟩ = some (.slice Ao689 t434.length co689) ∧ w'.cell? ⟨gb5, 0, none⟩ = some (.slice (some ad460) l6_0.length c6_0) ∧ w'.cell? (ad460.add ((a7).toNat * 3)) = some (.int .i64 ((rd_T28 l6_0 a7).f0)) ∧ w'.cell? ⟨(ad460.add ((a7).toNat * 3)).block, (ad460.add ((a7).toNat * 3)).off + 1, none⟩ = some (.int .i64 ((rd_T28 l6_0 a7).f1)) ∧ w'.cell? ⟨(ad460.add ((a7).toNat * 3)).block, (ad460.add ((a7).toNat * 3)).off + 2, none⟩ = some (.int .i64 ((rd_T28 l6_0 a7).f2))) ∧ (Kd.R k28 28 w' w.heap.size (fun k_ => some k_ ≠ (.slice Ao689 t434.length co689 : Value).ownBlock) s_.1 t461) ∧ (Kd.R k28 28 w' w.heap.size (fun k_ => some k_ ≠ (s_.1 : Value).ownBlock) (.slice Ao689 t434.length co689) t434) ∧ (w'.heap[gb5]? = some (.cells #[.slice (some ad460) l6_0.length c6_0] 26 (0, 0))) ∧ (w'.heap[gb16]? = some (.cells #[.slice Ao689 t434.length co689] 26 (0, 0))) ∧ (w'.heap[s_.2]? = some (.cells #[.slice none 0 0] 26 (0, 0))) ∧ (w.heap.size ≤ s_.2) ∧ (w.heap.size ≤ s_.2) ∧ (gb5 ≠ s_.2) ∧ (s_.2 ≠ gb5) ∧ (gb16 ≠ s_.2) ∧ (s_.2 ≠ gb16) ∧ (Below w.heap.size w w')) ?_ ?_
  rotate_left
  ·
   intro hCont
   refine two_ (i := 6) (j := 10) (Ni := some 407) (Nj := some 67) #[true, true, true, true, true, true, true, false, false, false, false, false, false] #[true, true, true, true, true, true, false, false, false, false, true, false, false] rfl rfl rfl rfl (two_of HT_.out (by kernel_rfl)) (by decide) (by decide) (fun K hK => ?_) (fun K hK => ?_)
   ·
    skip
    refine goes_ Try.func18 (by kernel_rfl) rfl #[.agg #[.slice Ao689 t434.length co689], .agg #[.int .i64 ((rd_T28 l6_0 a7).f0), .int .i64 ((rd_T28 l6_0 a7).f1), .int .i64 ((rd_T28 l6_0 a7).f2)]] (by rfl) rfl rfl argR ?_
    with_reducible refine (impl_AddClue.calls kj840 _ _ t434 ((rd_T28 l6_0 a7).f0) ((rd_T28 l6_0 a7).f1) ((rd_T28 l6_0 a7).f2) t461 true _ ?side1 ?side2 A848.out).mono ?_
    (case side1 => exact rs HO_439000)
    (case side2 => exact rl HO_439000)
    rintro e w852 ⟨v462, rfl, ho0, hb⟩
    refine ⟨_, rfl, ?_⟩
    have HO463 := Aside0.mk (Kd.R_lower (Kd.R_new' ho0 (Kd.R_lt (ro HO_439000))) (below_size (bw HB)))
    replace HO_439000 := Aside0.mk (Kd.R_elder' (ro HO_439000) (Kd.R_base ho0) hb)
    refine mv2 hb BK5 BK16 ?_
    clear BK5 BK16
    intro BK5 BK16
    replace HB := kw HB hb
    (try clear hb)
    (try clear hb2)
    (try clear hk)
    (try clear hi)
    (try clear ho0)
    refine hK.out _ _ ⟨bc BK16 0, bc BK5 0, ((HB.out.cell (World.block_lt_of_cell? w _ hw460_0)).trans hw460_0), ((HB.out.cell (World.block_lt_of_cell? w _ hw460_1)).trans hw460_1), ((HB.out.cell (World.block_lt_of_cell? w _ hw460_2)).trans hw460_2)⟩ (fun hHeld => ?_)
    clear hK K
    refine normK (N := some 407) (h := ?_)
    refine pureK HT_ 7 (some 400) ?_
    refine pureK HT_ 8 (some 408) ?_
    refine pureK HT_ 9 (some 409) ?_
    refine oneK HT_ 10 (some 67) (fun K hK => ?_)
    refine box_step ?hg (N := 67) ?hd (cs := #[.slice none 0 0]) (t := 26) ?hr ?_; (case hd => rfl); (case hg => rfl); (case hr => first | (go_simp; done) | (go_simp; rfl))
    intro gb19 hg w853 hbox hb
    replace HO_439000 := ko HO_439000 hb
    replace HO463 := ko HO463 hb
    have BK19 := Aside0.mk (hbox)
    have GW19 := gw HB hg
    have GE19 := gw HB hg
    replace HB := kw HB hb
    obtain ⟨NB5_19, NB19_5, NB16_19, NB19_16⟩ := nv2 hg BK5 BK16
    refine mv2 hb BK5 BK16 ?_
    clear BK5 BK16
    intro BK5 BK16
    clear hb hbox hg
    refine hK.out _ _ ⟨bc BK16 0, bc BK5 0, ((HB.out.cell (World.block_lt_of_cell? w _ hw460_0)).trans hw460_0), ((HB.out.cell (World.block_lt_of_cell? w _ hw460_1)).trans hw460_1), ((HB.out.cell (World.block_lt_of_cell? w _ hw460_2)).trans hw460_2)⟩ (fun hHeld => ?_)
    clear hK K
    refine normK (N := some 67) (h := ?_)
    exact norm_ (by simp only [putAll, Act.put, List.setIfInBounds_toArray, List.set_cons_zero, List.set_cons_succ]) (hCont (v462, gb19) _ ⟨hHeld, (by (with_reducible repeat (first | apply Kd.R_alloc | apply Kd.R_drewN | apply Kd.R_drew)); exact Kd.R_mono HO463.out (fun _ hk => hk.2)), (by (with_reducible repeat (first | apply Kd.R_alloc | apply Kd.R_drewN | apply Kd.R_drew)); exact Kd.R_mono HO_439000.out (fun _ hk => hk.2)), (bk BK5), (bk BK16), (bk BK19), GW19.out, GE19.out, NB5_19.out, NB19_5.out, NB16_19.out, NB19_16.out, (bw HB)⟩)
   skip
   refine box_step ?hg (N := 67) ?hd (cs := #[.slice none 0 0]) (t := 26) ?hr ?_; (case hd => rfl); (case hg => rfl); (case hr => first | (go_simp; done) | (go_simp; rfl))
   intro gb19 hg w852 hbox hb
   replace HO_439000 := ko HO_439000 hb
   have BK19 := Aside0.mk (hbox)
   have GW19 := gw HB hg
   have GE19 := gw HB hg
   replace HB := kw HB hb
   obtain ⟨NB5_19, NB19_5, NB16_19, NB19_16⟩ := nv2 hg BK5 BK16
   refine mv2 hb BK5 BK16 ?_
   clear BK5 BK16
   intro BK5 BK16
   clear hb hbox hg
   refine hK.out _ _ ⟨bc BK16 0, bc BK5 0, ((HB.out.cell (World.block_lt_of_cell? w _ hw460_0)).trans hw460_0), ((HB.out.cell (World.block_lt_of_cell? w _ hw460_1)).trans hw460_1), ((HB.out.cell (World.block_lt_of_cell? w _ hw460_2)).trans hw460_2)⟩ (fun hHeld => ?_)
   clear hK K
   refine normK (N := some 67) (h := ?_)
   refine oneK HT_ 6 (some 407) (fun K hK => ?_)
   refine goes_ Try.func18 (by kernel_rfl) rfl #[.agg #[.slice Ao689 t434.length co689], .agg #[.int .i64 ((rd_T28 l6_0 a7).f0), .int .i64 ((rd_T28 l6_0 a7).f1), .int .i64 ((rd_T28 l6_0 a7).f2)]] (by rfl) rfl rfl argR ?_
   with_reducible refine (impl_AddClue.calls kj840 _ _ t434 ((rd_T28 l6_0 a7).f0) ((rd_T28 l6_0 a7).f1) ((rd_T28 l6_0 a7).f2) t461 true _ ?side1 ?side2 A848.out).mono ?_
   (case side1 => exact rs HO_439000)
   (case side2 => exact rl HO_439000)
   rintro e w853 ⟨v462, rfl, ho0, hb⟩
   refine ⟨_, rfl, ?_⟩
   have HO463 := Aside0.mk (Kd.R_lower (Kd.R_new' ho0 (Kd.R_lt (ro HO_439000))) (below_size (bw HB)))
   replace HO_439000 := Aside0.mk (Kd.R_elder' (ro HO_439000) (Kd.R_base ho0) hb)
   refine mv3 hb BK5 BK16 BK19 ?_
   clear BK5 BK16 BK19
   intro BK5 BK16 BK19
   replace HB := kw HB hb
   (try clear hb)
   (try clear hb2)
   (try clear hk)
   (try clear hi)
   (try clear ho0)
   refine hK.out _ _ ⟨bc BK16 0, bc BK5 0, ((HB.out.cell (World.block_lt_of_cell? w _ hw460_0)).trans hw460_0), ((HB.out.cell (World.block_lt_of_cell? w _ hw460_1)).trans hw460_1), ((HB.out.cell (World.block_lt_of_cell? w _ hw460_2)).trans hw460_2)⟩ (fun hHeld => ?_)
   clear hK K
   refine normK (N := some 407) (h := ?_)
   refine pureK HT_ 7 (some 400) ?_
   refine pureK HT_ 8 (some 408) ?_
   refine pureK HT_ 9 (some 409) ?_
   exact norm_ (by simp only [putAll, Act.put, List.setIfInBounds_toArray, List.set_cons_zero, List.set_cons_succ]) (hCont (v462, gb19) _ ⟨hHeld, (by (with_reducible repeat (first | apply Kd.R_alloc | apply Kd.R_drewN | apply Kd.R_drew)); exact Kd.R_mono HO463.out (fun _ hk => hk.2)), (by (with_reducible repeat (first | apply Kd.R_alloc | apply Kd.R_drewN | apply Kd.R_drew)); exact Kd.R_mono HO_439000.out (fun _ hk => hk.2)), (bk BK5), (bk BK16), (bk BK19), GW19.out, GE19.out, NB5_19.out, NB19_5.out, NB16_19.out, NB19_16.out, (bw HB)⟩)
  rintro ⟨v462, gb19⟩ w854 ⟨hS_, h0_, h1_, h2_, h3_, h4_, h5_, h6_, h7_, h8_, h9_, h10_, h11_⟩
  have n0_ : Aside0 (Kd.R k28 28 w854 w.heap.size (fun k_ => some k_ ≠ (.slice Ao689 t434.length co689 : Value).ownBlock) v462 t461) := ⟨h0_⟩
  have n1_ : Aside0 (Kd.R k28 28 w854 w.heap.size (fun k_ => some k_ ≠ (v462 : Value).ownBlock) (.slice Ao689 t434.length co689) t434) := ⟨h1_⟩
  have n2_ : Aside0 (w854.heap[gb5]? = some (.cells #[.slice (some ad460) l6_0.length c6_0] 26 (0, 0))) := ⟨h2_⟩
  have n3_ : Aside0 (w854.heap[gb16]? = some (.cells #[.slice Ao689 t434.length co689] 26 (0, 0))) := ⟨h3_⟩
  have n4_ : Aside0 (w854.heap[gb19]? = some (.cells #[.slice none 0 0] 26 (0, 0))) := ⟨h4_⟩
  have n5_ : Aside0 (w.heap.size ≤ gb19) := ⟨h5_⟩
  have n6_ : Aside0 (w.heap.size ≤ gb19) := ⟨h6_⟩
  have n7_ : Aside0 (gb5 ≠ gb19) := ⟨h7_⟩
  have n8_ : Aside0 (gb19 ≠ gb5) := ⟨h8_⟩
  have n9_ : Aside0 (gb16 ≠ gb19) := ⟨h9_⟩
  have n10_ : Aside0 (gb19 ≠ gb16) := ⟨h10_⟩
  have n11_ : Aside0 (Below w.heap.size w w854) := ⟨h11_⟩
  clear HO_439000
  clear BK5
  clear BK16
  clear HB
  clear h0_ h1_ h2_ h3_ h4_ h5_ h6_ h7_ h8_ h9_ h10_ h11_
  have HO463 := n0_
  have HO_439000 := n1_
  have BK5 := n2_
  have BK16 := n3_
  have BK19 := n4_
  have GW19 := n5_
  have GE19 := n6_
  have NB5_19 := n7_
  have NB19_5 := n8_
  have NB16_19 := n9_
  have NB19_16 := n10_
  have HB := n11_
  clear n0_ n1_ n2_ n3_ n4_ n5_ n6_ n7_ n8_ n9_ n10_ n11_
  have hHeld : w854.cell? ⟨gb16, 0, none⟩ = some (.slice Ao689 t434.length co689) ∧ w854.cell? ⟨gb5, 0, none⟩ = some (.slice (some ad460) l6_0.length c6_0) ∧ w854.cell? (ad460.add ((a7).toNat * 3)) = some (.int .i64 ((rd_T28 l6_0 a7).f0)) ∧ w854.cell? ⟨(ad460.add ((a7).toNat * 3)).block, (ad460.add ((a7).toNat * 3)).off + 1, none⟩ = some (.int .i64 ((rd_T28 l6_0 a7).f1)) ∧ w854.cell? ⟨(ad460.add ((a7).toNat * 3)).block, (ad460.add ((a7).toNat * 3)).off + 2, none⟩ = some (.int .i64 ((rd_T28 l6_0 a7).f2)) := hS_
  obtain ⟨Ao855, co855, eo855⟩ := Kd.R_slice HO463.out
  (first | subst eo855 | (injection eo855 with f1_ f2_ f3_; have f4_ := f1_.symm; have f5_ := f3_.symm; clear f1_ f2_ f3_; subst f4_; subst f5_))
  refine norm_ (a' := ?_) ?_ ?_
  rotate_left
  ·
   simp only [putAll, Act.put, List.setIfInBounds_toArray, List.set_cons_zero, List.set_cons_succ]
   rfl
  refine oneK HT_ 11 none (fun K hK => ?_)
  have hs856 : w854.cell? ⟨gb19, 0, none⟩ = some (.slice none 0 0) := bc BK19 0
  have hfs856 := blk_frozen BK19.out 0
  have hns856_0 := NB5_19.out
  have hns856_1 := NB16_19.out
  have hms856_0 := NB19_5.out
  have hms856_1 := NB19_16.out
  refine skip_ (w1 := ?_) (by rfl) rfl ?_ ?_
  rotate_left
  ·
   go_simp
   rfl
  refine hK.out _ _ ⟨((cell_far (p := ⟨gb19, _, none⟩) NB16_19.out _).trans (hHeld.1)), ((cell_far (p := ⟨gb19, _, none⟩) NB5_19.out _).trans (hHeld.2.1)), ((cell_far (p := ⟨gb19, _, none⟩) (by first | exact Nat.ne_of_lt (Nat.lt_of_lt_of_le (by have := World.block_lt_of_cell? _ _ hw460_0; first | rwa [add_block] at this | exact this) GW19.out) | (rw [add_block]; exact Nat.ne_of_lt (Nat.lt_of_lt_of_le (by have := World.block_lt_of_cell? _ _ hw460_0; first | rwa [add_block] at this | exact this) GW19.out)) | (show (Addr.add _ _).block ≠ _; rw [add_block]; exact Nat.ne_of_lt (Nat.lt_of_lt_of_le (by have := World.block_lt_of_cell? _ _ hw460_0; first | rwa [add_block] at this | exact this) GW19.out)) | (dsimp only; exact Nat.ne_of_lt (Nat.lt_of_lt_of_le (by have := World.block_lt_of_cell? _ _ hw460_0; first | rwa [add_block] at this | exact this) GW19.out))) _).trans (hHeld.2.2.1)), ((cell_far (p := ⟨gb19, _, none⟩) (by first | exact Nat.ne_of_lt (Nat.lt_of_lt_of_le (by have := World.block_lt_of_cell? _ _ hw460_1; first | rwa [add_block] at this | exact this) GW19.out) | (rw [add_block]; exact Nat.ne_of_lt (Nat.lt_of_lt_of_le (by have := World.block_lt_of_cell? _ _ hw460_1; first | rwa [add_block] at this | exact this) GW19.out)) | (show (Addr.add _ _).block ≠ _; rw [add_block]; exact Nat.ne_of_lt (Nat.lt_of_lt_of_le (by have := World.block_lt_of_cell? _ _ hw460_1; first | rwa [add_block] at this | exact this) GW19.out)) | (dsimp only; exact Nat.ne_of_lt (Nat.lt_of_lt_of_le (by have := World.block_lt_of_cell? _ _ hw460_1; first | rwa [add_block] at this | exact this) GW19.out))) _).trans (hHeld.2.2.2.1)), ((cell_far (p := ⟨gb19, _, none⟩) (by first | exact Nat.ne_of_lt (Nat.lt_of_lt_of_le (by have := World.block_lt_of_cell? _ _ hw460_2; first | rwa [add_block] at this | exact this) GW19.out) | (rw [add_block]; exact Nat.ne_of_lt (Nat.lt_of_lt_of_le (by have := World.block_lt_of_cell? _ _ hw460_2; first | rwa [add_block] at this | exact this) GW19.out)) | (show (Addr.add _ _).block ≠ _; rw [add_block]; exact Nat.ne_of_lt (Nat.lt_of_lt_of_le (by have := World.block_lt_of_cell? _ _ hw460_2; first | rwa [add_block] at this | exact this) GW19.out)) | (dsimp only; exact Nat.ne_of_lt (Nat.lt_of_lt_of_le (by have := World.block_lt_of_cell? _ _ hw460_2; first | rwa [add_block] at this | exact this) GW19.out))) _).trans (hHeld.2.2.2.2))⟩ (fun hHeld => ?_)
  clear hK K
  refine pureK HT_ 12 (some 68) ?_
  refine done_ (done_of HT_.out (by kernel_rfl)) ?_
  have hnb857 := up2 NB19_5 NB19_16
  obtain ⟨hcz859_0, hfz859_0⟩ := kc1 BK19
  have hnb860 := up1 NB5_16
  obtain ⟨hcz861_0, hfz861_0⟩ := kc1 BK5
  try go_wp2_with (first | (go_at_call 7; (with_reducible refine (laws_qClues.calls kj840 _ _ t461 _ _ l6_0 t466 _ ?side1 ?side2 ?side3 ?side4 A850.out).mono ?_); (case side1 => refine (Kd.R_reads' (e := 28) (base := w.heap.size) (ok := fun k_ => some k_ ≠ (.slice Ao689 t434.length co689 : Value).ownBlock) (n := t461.length) (c := co855) ?_).2.2; exact (by (with_reducible repeat (first | apply Kd.R_alloc | apply Kd.R_drewN | apply Kd.R_drew)); exact (Kd.R_mono (Kd.R_far (p := ⟨gb19, 0, none⟩) (Kd.R_types HO463.out BK19.out (by decide)) (fun _ hk => hk.2) (.slice Ao855 t461.length co855)) (fun _ h_ => h_.1)))); (case side2 => exact rl HO463); (case side3 => exact Kd.C_below HR6_0.out (bw HB)); (case side4 => exact HC6_0.out); rintro e w' ⟨rfl, ⟨nd, rfl⟩⟩))
  go_ret
  exact ⟨eqR, bw HB⟩



end Go.Proofs.Ytlpjooijkeadbaa.PH
