-- Written by a program of our own (wip/tools/xprint.py) for this claim; Lean checks it.
import Derived.Test.YtlpjooijkeadbaaPHx0
import Derived.Test.YtlpjooijkeadbaaPHx3
import Derived.Test.YtlpjooijkeadbaaPHx4
import Derived.Test.YtlpjooijkeadbaaPHx5
import Derived.Test.YtlpjooijkeadbaaPHx7
import Derived.Test.YtlpjooijkeadbaaPHx8
import Derived.Test.YtlpjooijkeadbaaPHx9
import Derived.Test.YtlpjooijkeadbaaPHx12
import Derived.Test.YtlpjooijkeadbaaPHx14
import Derived.Test.YtlpjooijkeadbaaPHx15
import Derived.Test.YtlpjooijkeadbaaPHx16
import Derived.Test.YtlpjooijkeadbaaKC
namespace Go.Proofs.Ytlpjooijkeadbaa.PH
open Go.RowKit Go.Proofs.YtlpjooijkeadbaaK Go.Proofs.YtlpjooijkeadbaaW.PrintWords Go.Proofs.YtlpjooijkeadbaaW.PrintLast Go.Proofs.YtlpjooijkeadbaaW.PrintMore
attribute [local go_sem] max2_int min2_int max_two min_two max_three min_three max_four min_four   -- for this text's walks alone
set_option linter.unusedVariables false
set_option linter.unusedSimpArgs false

attribute [local go_sem high] eqA28
set_option maxHeartbeats 8000000 in
set_option maxRecDepth 100000 in
theorem laws_FnSnailsHidden.r7 (A0 : Option Addr) (c0 : Nat) (l0 : List Int) (A1 : Option Addr) (c1 : Nat) (l1 : List Int) (r : Bool) (w : World) (t762 t763 : Int) (t768 t773 : Bool) (nd gb1 gb2 gb3 : Nat) (u62 u63 u64 u65 u66 u67 u68 u69 u70 u71 u72 u73 u74 u75 u76 u77 u78 u79 u80 u81 u82 u83 u84 u85 u86 u87 u88 u89 u90 u91 u92 u93 u94 u12 u13 u14 u15 u16 u17 u18 u19 u20 u21 u23 u24 u25 u95 u96 u97 u98 u99 u100 u101 u102 u103 u104 u105 u106 u107 u108 u109 u110 u111 u112 u113 u114 u115 u116 u117 u118 u119 u120 u121 u122 u123 u124 u125 u126 u127 u128 u129 u130 u131 u132 u133 u134 u135 u136 u137 u138 u139 u140 u141 u142 u143 u144 u145 u146 u147 u148 u149 u150 u151 u152 u153 u154 u155 u156 u157 u158 u159 u160 u161 u162 u163 u164 u165 u166 u167 u168 u169 u170 u171 u172 u173 u174 u175 u176 u177 u178 u179 u180 u181 u182 u183 u184 u185 u186 u187 u188 u189 u190 u191 u192 u193 u194 u195 u196 u197 : Value) (t798 t803 t805 t806 : Bool) (gb5 gb6 gb7 : Nat) (u198 u199 u200 u201 u202 u203 u204 u205 u206 u207 u208 u209 u210 u211 u212 u213 u214 u215 u216 u217 u218 u219 u220 u221 u222 u223 u224 u225 u226 u227 u228 u229 u230 u231 u232 u33 u34 u35 u36 u37 u38 u233 u234 u235 u236 u237 u238 u239 u240 u241 u242 u243 u244 u245 u246 u247 u248 u249 u250 u251 u252 u253 u254 u255 u256 u257 u258 u259 u260 u261 u262 u263 u264 u265 u266 u267 u268 u269 u270 u271 u272 u273 u274 u275 u276 u277 u278 u279 : Value) (t832 t837 : Bool) (t839 : List S28) (t842 : Int) (t844 : List S28) (t847 t852 t861 t862 t863 t864 : Bool) (gb8 gb9 gb10 gb11 gb12 : Nat) (Ao321 : Option Addr) (co321 gb13 : Nat) (NB12_13 : Aside0 (gb12 ≠ gb13)) (Ao329 : Option Addr) (co329 gb14 gb15 gb16 gb17 : Nat) (u280 u281 u282 u283 u284 u285 u286 u287 u288 u289 u290 u291 u292 u293 u294 u295 u296 u297 u298 u299 u300 u301 u302 u303 u304 u305 u306 u307 u308 u309 u310 u311 u312 u313 u314 u315 u316 u317 u318 u319 u320 u321 u322 u323 u324 u325 u326 u327 u328 u329 u330 u331 u332 u333 u334 u335 u336 u337 u338 u339 u340 u341 u342 u343 u344 u345 u346 u347 u348 u349 u350 u351 u352 u353 u354 u355 u356 u357 u358 u359 u360 u361 u362 u363 u364 u365 u366 u367 u368 u369 u370 u371 u372 u373 u374 u375 u376 u377 u378 u379 u380 u4 u58 u59 u381 u382 u383 u384 u385 u386 u387 u388 u389 u390 u391 u392 u393 u394 u395 u396 u397 u398 u399 u400 u401 u402 u403 u404 u405 u406 u407 u408 u409 u410 u411 : Value) (Qz7 : Exit → Act → World → Prop) (hQz7 : Qz7 = bodyPost Try.prog Try.f4 fun e w' => e = Ending.returned (Value.bool r) ∧ Below w.heap.size w w') (Kz8 : Act → World → Prop) (az9 : ∀ (a : Act) (w : World), Code.wp Try.prog (cAt [1, 1, 1, 1, 1, 1, 1, 1, 1, 1, 1, 1, 1, 1, 1, 1, 1, 1, 1, 1, 1, 1, 1, 1, 1, 1] Try.f4) Qz7 a w → Kz8 a w) (Kz10 : Act → World → Prop) (az11 : ∀ (a : Act) (w : World), Code.wp Try.prog (cAt [1, 1, 1, 1, 1, 1, 1, 1, 1, 1, 1, 1, 1, 1, 1, 1, 1, 1, 1, 1, 1, 1, 1, 1, 1, 0, 1] Try.f4) (Exit.then Kz8 Qz7) a w → Kz10 a w) (wc : World) (u412 u413 u414 u415 u416 u417 u418 u419 : Value) (kq : Nat) (x420_510 : Bool) (HA : Aside0 (j8 kq t842 x420_510 t839 t844 = some r)) (HO_844000 : Aside0 (k28.R 28 wc w.heap.size (fun k_ => some k_ ≠ (Value.slice Ao329 t844.length co329).ownBlock) (Value.slice Ao321 t839.length co321) t839)) (HO_849000 : Aside0 (k28.R 28 wc w.heap.size (fun k_ => some k_ ≠ (Value.slice Ao321 t839.length co321).ownBlock) (Value.slice Ao329 t844.length co329) t844)) (BK12 : Aside0 (wc.heap[gb12]? = some (Obj.cells #[Value.slice Ao321 t839.length co321] 26))) (BK13 : Aside0 (wc.heap[gb13]? = some (Obj.cells #[Value.slice Ao329 t844.length co329] 26))) (HB : Aside0 (Below w.heap.size w wc)) :
    Kz10 { tmps := #[Value.slice A0 l0.length c0, Value.slice A1 l1.length c1, undef, undef, u4, Value.pointer (some { block := gb1, off := 0 }), Value.int IntKind.i64 t762, Value.int IntKind.i64 t763, Value.pointer (some { block := gb2, off := 0 }), Value.bool t768, Value.pointer (some { block := gb3, off := 0 }), Value.bool t773, u12, u13, u14, u15, u16, u17, u18, u19, u20, u21, undef, u23, u24, u25, Value.pointer (some { block := gb5, off := 0 }), Value.pointer (some { block := gb6, off := 0 }), Value.bool t798, Value.pointer (some { block := gb7, off := 0 }), Value.bool t803, Value.bool t805, Value.bool t806, u33, u34, u35, u36, u37, u38, Value.pointer (some { block := gb8, off := 0 }), Value.pointer (some { block := gb9, off := 0 }), Value.pointer (some { block := gb10, off := 0 }), Value.bool t832, Value.pointer (some { block := gb11, off := 0 }), Value.bool t837, Value.pointer (some { block := gb12, off := 0 }), Value.int IntKind.i64 t842, Value.pointer (some { block := gb13, off := 0 }), Value.bool t847, Value.pointer (some { block := gb14, off := 0 }), Value.bool t852, Value.pointer (some { block := gb15, off := 0 }), Value.pointer (some { block := gb16, off := 0 }), Value.bool t861, Value.bool t862, Value.bool t863, Value.bool t864, Value.pointer (some { block := gb17, off := 0 }), u58, u59, undef, undef, u62, u63, u64, u65, u66, u67, u68, u69, u70, u71, u72, u73, u74, u75, u76, u77, u78, u79, u80, u81, u82, u83, u84, u85, u86, u87, u88, u89, u90, u91, u92, u93, u94, u95, u96, u97, u98, u99, u100, u101, u102, u103, u104, u105, u106, u107, u108, u109, u110, u111, u112, u113, u114, u115, u116, u117, u118, u119, u120, u121, u122, u123, u124, u125, u126, u127, u128, u129, u130, u131, u132, u133, u134, u135, u136, u137, u138, u139, u140, u141, u142, u143, u144, u145, u146, u147, u148, u149, u150, u151, u152, u153, u154, u155, u156, u157, u158, u159, u160, u161, u162, u163, u164, u165, u166, u167, u168, u169, u170, u171, u172, u173, u174, u175, u176, u177, u178, u179, u180, u181, u182, u183, u184, u185, u186, u187, u188, u189, u190, u191, u192, u193, u194, u195, u196, u197, u198, u199, u200, u201, u202, u203, u204, u205, u206, u207, u208, u209, u210, u211, u212, u213, u214, u215, u216, u217, u218, u219, u220, u221, u222, u223, u224, u225, u226, u227, u228, u229, u230, u231, u232, u233, u234, u235, u236, u237, u238, u239, u240, u241, u242, u243, u244, u245, u246, u247, u248, u249, u250, u251, u252, u253, u254, u255, u256, u257, u258, u259, u260, u261, u262, u263, u264, u265, u266, u267, u268, u269, u270, u271, u272, u273, u274, u275, u276, u277, u278, u279, u280, u281, u282, u283, u284, u285, u286, u287, u288, u289, u290, u291, u292, u293, u294, u295, u296, u297, u298, u299, u300, u301, u302, u303, u304, u305, u306, u307, u308, u309, u310, u311, u312, u313, u314, u315, u316, u317, u318, u319, u320, u321, u322, u323, u324, u325, u326, u327, u328, u329, u330, u331, u332, u333, u334, u335, u336, u337, u338, u339, u340, u341, u342, u343, u344, u345, u346, u347, u348, u349, u350, u351, u352, u353, u354, u355, u356, u357, u358, u359, u360, u361, u362, u363, u364, u365, u366, u367, u368, u369, u370, u371, u372, u373, u374, u375, u376, u377, u378, u379, u380, u381, u382, u383, u384, u385, u386, u387, u388, u389, u390, u391, u392, u393, u394, u395, u396, u397, u398, u399, u400, u401, u402, u403, u404, u405, u406, u407, u408, u409, u410, u411, u412, u413, u414, u415, u416, u417, u418, u419, Value.bool x420_510, undef, undef, undef, undef, undef, undef, undef, undef, undef, undef, undef, undef, undef, undef, undef, undef, undef, undef], defers := [] } wc  := by
 subst hQz7
 (try dsimp only)
 conv at az9 => ext a w; lhs; arg 2; whnf
 conv at az11 => ext a w; lhs; arg 2; whnf
 cases kq with
 | zero => exact absurd HA.out (by simp [laws_FnSnailsHidden.j8])
 | succ kj510 =>
  have H := HA.out
  clear HA
  simp only [laws_FnSnailsHidden.j8] at H
  replace H := iteB H; rcases H with ⟨rfl, H⟩ | ⟨rfl, H⟩
  rotate_left
  ·
   obtain rfl := Option.some.inj H
   go_wp2
   go_ret
   exact ⟨eqR, bw HB⟩
  replace H := iteS H; obtain ⟨c516, H⟩ := H
  have c516b0 : decide (0 ≤ t842) = true := decide_eq_true c516
  clear c516
  replace H := iteS H; obtain ⟨c517, H⟩ := H
  have c517b0 : decide (t842 < (t839.length : Int)) = true := decide_eq_true c517
  clear c517
  replace H := bindS H; obtain ⟨⟨t882, t885⟩, A518, H⟩ := H
  replace H := iteB H; rcases H with ⟨rfl, H⟩ | ⟨rfl, H⟩
  rotate_left
  ·
   obtain rfl := Option.some.inj H
   try go_wp2
   replace HO_844000 := od HO_844000
   replace HO_849000 := od HO_849000
   refine md2 BK12 BK13 ?_
   clear BK12 BK13
   intro BK12 BK13
   replace HB := Aside0.mk (below_drew1 HB.out)
   have p881 : 0 ≤ (t842 : Int) := of_decide_eq_true (by first | (with_reducible assumption) | assumption)
   have q881 : t842 < (t839.length : Int) := of_decide_eq_true (by first | (with_reducible assumption) | assumption)
   obtain ⟨ad881, e881, hx881_0, hx881_1, hx881_2⟩ := at_T28 (Kd.R_reads' HO_844000.out).2.2 t842 p881 q881
   cases e881
   replace p881 := eq_true p881
   replace q881 := eq_true q881
   refine startK 13 (S := fun w' => w'.cell? ⟨gb13, 0, none⟩ = some (.slice Ao329 t844.length co329) ∧ w'.cell? ⟨gb12, 0, none⟩ = some (.slice (some ad881) t839.length co321) ∧ w'.cell? (ad881.add ((t842).toNat * 3)) = some (.int .i64 ((rd_T28 t839 t842).f0)) ∧ w'.cell? ⟨(ad881.add ((t842).toNat * 3)).block, (ad881.add ((t842).toNat * 3)).off + 1, none⟩ = some (.int .i64 ((rd_T28 t839 t842).f1)) ∧ w'.cell? ⟨(ad881.add ((t842).toNat * 3)).block, (ad881.add ((t842).toNat * 3)).off + 2, none⟩ = some (.int .i64 ((rd_T28 t839 t842).f2))) (ds := []) laws_FnSnailsHidden.tab52 laws_FnSnailsHidden.bits52 (hS := ⟨bc BK13 0, bc BK12 0, hx881_0, hx881_1, hx881_2⟩) (h := fun hHeld HT_ HW_ => ?_)
   generalize wc.drew = w532 at HO_844000 HO_849000 BK12 BK13 HB hx881_0 hx881_1 hx881_2 hHeld ⊢
   refine pureK HT_ 1 (some 423) ?_
   refine pureK HT_ 3 (some 425) ?_
   refine takeK HT_ HW_ hHeld 0 (some 422) ?_
   refine takeK HT_ HW_ hHeld 2 (some 424) ?_
   refine pureK HT_ 4 (some 426) ?_
   refine takeK HT_ HW_ hHeld 5 (some 427) ?_
   refine join_ (σ := Value × Nat) 2 #[true, true, true, true, true, true, true, true, true, true, true, false, false] (fun s_ => [(428, .tuple #[.agg #[s_.1], .bool false]), (60, .pointer (some ⟨s_.2, 0, none⟩)), (421, .tuple #[.agg #[s_.1], .bool false]), (429, .agg #[s_.1]), (430, .bool false)]) (fun s_ w' => (w'.cell? ⟨gb13, 0, none⟩ = some (.slice Ao329 t844.length co329) ∧ w'.cell? ⟨gb12, 0, none⟩ = some (.slice (some ad881) t839.length co321) ∧ w'.cell? (ad881.add ((t842).toNat * 3)) = some (.int .i64 ((rd_T28 t839 t842).f0)) ∧ w'.cell? ⟨(ad881.add ((t842).toNat * 3)).block, (ad881.add ((t842).toNat * 3)).off + 1, none⟩ = some (.int .i64 ((rd_T28 t839 t842).f1)) ∧ w'.cell? ⟨(ad881.add ((t842).toNat * 3)).block, (ad881.add ((t842).toNat * 3)).off + 2, none⟩ = some (.int .i64 ((rd_T28 t839 t842).f2))) ∧ (Kd.R k28 28 w' w.heap.size (fun k_ => some k_ ≠ (.slice (some ad881) t839.length co321 : Value).ownBlock ∧ some k_ ≠ (.slice Ao329 t844.length co329 : Value).ownBlock) s_.1 t882) ∧ (Kd.R k28 28 w' w.heap.size (fun k_ => some k_ ≠ (s_.1 : Value).ownBlock ∧ some k_ ≠ (.slice Ao329 t844.length co329 : Value).ownBlock) (.slice (some ad881) t839.length co321) t839) ∧ (Kd.R k28 28 w' w.heap.size (fun k_ => some k_ ≠ (s_.1 : Value).ownBlock ∧ some k_ ≠ (.slice (some ad881) t839.length co321 : Value).ownBlock) (.slice Ao329 t844.length co329) t844) ∧ (w'.heap[gb12]? = some (.cells #[.slice (some ad881) t839.length co321] 26 (0, 0))) ∧ (w'.heap[gb13]? = some (.cells #[.slice Ao329 t844.length co329] 26 (0, 0))) ∧ (w'.heap[s_.2]? = some (.cells #[.slice none 0 0] 26 (0, 0))) ∧ (w.heap.size ≤ s_.2) ∧ (w.heap.size ≤ s_.2) ∧ (gb12 ≠ s_.2) ∧ (s_.2 ≠ gb12) ∧ (gb13 ≠ s_.2) ∧ (s_.2 ≠ gb13) ∧ (Below w.heap.size w w')) ?_ ?_
   rotate_left
   ·
    intro hCont
    refine two_ (i := 6) (j := 10) (Ni := some 428) (Nj := some 60) #[true, true, true, true, true, true, true, false, false, false, false, false, false] #[true, true, true, true, true, true, false, false, false, false, true, false, false] rfl rfl rfl rfl (two_of HT_.out (by kernel_rfl)) (by decide) (by decide) (fun K hK => ?_) (fun K hK => ?_)
    ·
     skip
     refine goes_ Try.func18 (by kernel_rfl) rfl #[.agg #[.slice Ao329 t844.length co329], .agg #[.int .i64 ((rd_T28 t839 t842).f0), .int .i64 ((rd_T28 t839 t842).f1), .int .i64 ((rd_T28 t839 t842).f2)]] (by rfl) rfl rfl argR ?_
     with_reducible refine (impl_AddClue.calls kj510 _ _ t844 ((rd_T28 t839 t842).f0) ((rd_T28 t839 t842).f1) ((rd_T28 t839 t842).f2) t882 false _ ?side1 ?side2 A518.out).mono ?_
     (case side1 => exact rs HO_849000)
     (case side2 => exact rl HO_849000)
     rintro e w533 ⟨v883, rfl, ho0, hb⟩
     have HS2_ := (hb.cell (World.block_lt_of_cell? _ _ (hHeld.2.2.1))).trans (hHeld.2.2.1)
     have HS3_ := (hb.cell (World.block_lt_of_cell? _ _ (hHeld.2.2.2.1))).trans (hHeld.2.2.2.1)
     have HS4_ := (hb.cell (World.block_lt_of_cell? _ _ (hHeld.2.2.2.2))).trans (hHeld.2.2.2.2)
     refine ⟨_, rfl, ?_⟩
     have HO884 := Aside0.mk (Kd.R_lower (Kd.R_new' (Kd.R_new' ho0 (Kd.R_lt (ro HO_844000))) (Kd.R_lt (ro HO_849000))) (below_size (bw HB)))
     replace HO_844000 := Aside0.mk (Kd.R_elder' (ro HO_844000) (Kd.R_base ho0) hb)
     replace HO_849000 := Aside0.mk (Kd.R_elder' (ro HO_849000) (Kd.R_base ho0) hb)
     refine mv2 hb BK12 BK13 ?_
     clear BK12 BK13
     intro BK12 BK13
     replace HB := kw HB hb
     (try clear hb)
     (try clear hb2)
     (try clear hk)
     (try clear hi)
     (try clear ho0)
     refine hK.out _ _ ⟨bc BK13 0, bc BK12 0, HS2_, HS3_, HS4_⟩ (fun hHeld => ?_)
     clear hK K
     refine normK (N := some 428) (h := ?_)
     refine pureK HT_ 7 (some 421) ?_
     refine pureK HT_ 8 (some 429) ?_
     refine pureK HT_ 9 (some 430) ?_
     refine oneK HT_ 10 (some 60) (fun K hK => ?_)
     refine box_step ?hg (N := 60) ?hd (cs := #[.slice none 0 0]) (t := 26) ?hr ?_; (case hd => rfl); (case hg => rfl); (case hr => first | (go_simp; done) | (go_simp; rfl))
     intro gb19 hg w534 hbox hb
     have HS2_ := (hb.cell (World.block_lt_of_cell? _ _ (hHeld.2.2.1))).trans (hHeld.2.2.1)
     have HS3_ := (hb.cell (World.block_lt_of_cell? _ _ (hHeld.2.2.2.1))).trans (hHeld.2.2.2.1)
     have HS4_ := (hb.cell (World.block_lt_of_cell? _ _ (hHeld.2.2.2.2))).trans (hHeld.2.2.2.2)
     replace HO_844000 := ko HO_844000 hb
     replace HO_849000 := ko HO_849000 hb
     replace HO884 := ko HO884 hb
     have BK19 := Aside0.mk (hbox)
     have GW19 := gw HB hg
     have GE19 := gw HB hg
     replace HB := kw HB hb
     obtain ⟨NB12_19, NB19_12, NB13_19, NB19_13⟩ := nv2 hg BK12 BK13
     refine mv2 hb BK12 BK13 ?_
     clear BK12 BK13
     intro BK12 BK13
     clear hb hbox hg
     refine hK.out _ _ ⟨bc BK13 0, bc BK12 0, HS2_, HS3_, HS4_⟩ (fun hHeld => ?_)
     clear hK K
     refine normK (N := some 60) (h := ?_)
     exact norm_ (by simp only [putAll, Act.put, List.setIfInBounds_toArray, List.set_cons_zero, List.set_cons_succ]) (hCont (v883, gb19) _ ⟨hHeld, (by (with_reducible repeat (first | apply Kd.R_alloc | apply Kd.R_drewN | apply Kd.R_drew)); exact Kd.R_mono HO884.out (fun _ hk => ⟨hk.1.2, hk.2⟩)), (by (with_reducible repeat (first | apply Kd.R_alloc | apply Kd.R_drewN | apply Kd.R_drew)); exact Kd.R_mono HO_844000.out (fun _ hk => ⟨hk.2, hk.1⟩)), (by (with_reducible repeat (first | apply Kd.R_alloc | apply Kd.R_drewN | apply Kd.R_drew)); exact Kd.R_mono HO_849000.out (fun _ hk => ⟨hk.2, hk.1⟩)), (bk BK12), (bk BK13), (bk BK19), GW19.out, GE19.out, NB12_19.out, NB19_12.out, NB13_19.out, NB19_13.out, (bw HB)⟩)
    skip
    refine box_step ?hg (N := 60) ?hd (cs := #[.slice none 0 0]) (t := 26) ?hr ?_; (case hd => rfl); (case hg => rfl); (case hr => first | (go_simp; done) | (go_simp; rfl))
    intro gb19 hg w533 hbox hb
    have HS2_ := (hb.cell (World.block_lt_of_cell? _ _ (hHeld.2.2.1))).trans (hHeld.2.2.1)
    have HS3_ := (hb.cell (World.block_lt_of_cell? _ _ (hHeld.2.2.2.1))).trans (hHeld.2.2.2.1)
    have HS4_ := (hb.cell (World.block_lt_of_cell? _ _ (hHeld.2.2.2.2))).trans (hHeld.2.2.2.2)
    replace HO_844000 := ko HO_844000 hb
    replace HO_849000 := ko HO_849000 hb
    have BK19 := Aside0.mk (hbox)
    have GW19 := gw HB hg
    have GE19 := gw HB hg
    replace HB := kw HB hb
    obtain ⟨NB12_19, NB19_12, NB13_19, NB19_13⟩ := nv2 hg BK12 BK13
    refine mv2 hb BK12 BK13 ?_
    clear BK12 BK13
    intro BK12 BK13
    clear hb hbox hg
    refine hK.out _ _ ⟨bc BK13 0, bc BK12 0, HS2_, HS3_, HS4_⟩ (fun hHeld => ?_)
    clear hK K
    refine normK (N := some 60) (h := ?_)
    refine oneK HT_ 6 (some 428) (fun K hK => ?_)
    refine goes_ Try.func18 (by kernel_rfl) rfl #[.agg #[.slice Ao329 t844.length co329], .agg #[.int .i64 ((rd_T28 t839 t842).f0), .int .i64 ((rd_T28 t839 t842).f1), .int .i64 ((rd_T28 t839 t842).f2)]] (by rfl) rfl rfl argR ?_
    with_reducible refine (impl_AddClue.calls kj510 _ _ t844 ((rd_T28 t839 t842).f0) ((rd_T28 t839 t842).f1) ((rd_T28 t839 t842).f2) t882 false _ ?side1 ?side2 A518.out).mono ?_
    (case side1 => exact rs HO_849000)
    (case side2 => exact rl HO_849000)
    rintro e w534 ⟨v883, rfl, ho0, hb⟩
    have HS2_ := (hb.cell (World.block_lt_of_cell? _ _ (hHeld.2.2.1))).trans (hHeld.2.2.1)
    have HS3_ := (hb.cell (World.block_lt_of_cell? _ _ (hHeld.2.2.2.1))).trans (hHeld.2.2.2.1)
    have HS4_ := (hb.cell (World.block_lt_of_cell? _ _ (hHeld.2.2.2.2))).trans (hHeld.2.2.2.2)
    refine ⟨_, rfl, ?_⟩
    have HO884 := Aside0.mk (Kd.R_lower (Kd.R_new' (Kd.R_new' ho0 (Kd.R_lt (ro HO_844000))) (Kd.R_lt (ro HO_849000))) (below_size (bw HB)))
    replace HO_844000 := Aside0.mk (Kd.R_elder' (ro HO_844000) (Kd.R_base ho0) hb)
    replace HO_849000 := Aside0.mk (Kd.R_elder' (ro HO_849000) (Kd.R_base ho0) hb)
    refine mv3 hb BK12 BK13 BK19 ?_
    clear BK12 BK13 BK19
    intro BK12 BK13 BK19
    replace HB := kw HB hb
    (try clear hb)
    (try clear hb2)
    (try clear hk)
    (try clear hi)
    (try clear ho0)
    refine hK.out _ _ ⟨bc BK13 0, bc BK12 0, HS2_, HS3_, HS4_⟩ (fun hHeld => ?_)
    clear hK K
    refine normK (N := some 428) (h := ?_)
    refine pureK HT_ 7 (some 421) ?_
    refine pureK HT_ 8 (some 429) ?_
    refine pureK HT_ 9 (some 430) ?_
    exact norm_ (by simp only [putAll, Act.put, List.setIfInBounds_toArray, List.set_cons_zero, List.set_cons_succ]) (hCont (v883, gb19) _ ⟨hHeld, (by (with_reducible repeat (first | apply Kd.R_alloc | apply Kd.R_drewN | apply Kd.R_drew)); exact Kd.R_mono HO884.out (fun _ hk => ⟨hk.1.2, hk.2⟩)), (by (with_reducible repeat (first | apply Kd.R_alloc | apply Kd.R_drewN | apply Kd.R_drew)); exact Kd.R_mono HO_844000.out (fun _ hk => ⟨hk.2, hk.1⟩)), (by (with_reducible repeat (first | apply Kd.R_alloc | apply Kd.R_drewN | apply Kd.R_drew)); exact Kd.R_mono HO_849000.out (fun _ hk => ⟨hk.2, hk.1⟩)), (bk BK12), (bk BK13), (bk BK19), GW19.out, GE19.out, NB12_19.out, NB19_12.out, NB13_19.out, NB19_13.out, (bw HB)⟩)
   rintro ⟨v883, gb19⟩ w535 ⟨hS_, h0_, h1_, h2_, h3_, h4_, h5_, h6_, h7_, h8_, h9_, h10_, h11_, h12_⟩
   have n0_ : Aside0 (Kd.R k28 28 w535 w.heap.size (fun k_ => some k_ ≠ (.slice (some ad881) t839.length co321 : Value).ownBlock ∧ some k_ ≠ (.slice Ao329 t844.length co329 : Value).ownBlock) v883 t882) := ⟨h0_⟩
   have n1_ : Aside0 (Kd.R k28 28 w535 w.heap.size (fun k_ => some k_ ≠ (v883 : Value).ownBlock ∧ some k_ ≠ (.slice Ao329 t844.length co329 : Value).ownBlock) (.slice (some ad881) t839.length co321) t839) := ⟨h1_⟩
   have n2_ : Aside0 (Kd.R k28 28 w535 w.heap.size (fun k_ => some k_ ≠ (v883 : Value).ownBlock ∧ some k_ ≠ (.slice (some ad881) t839.length co321 : Value).ownBlock) (.slice Ao329 t844.length co329) t844) := ⟨h2_⟩
   have n3_ : Aside0 (w535.heap[gb12]? = some (.cells #[.slice (some ad881) t839.length co321] 26 (0, 0))) := ⟨h3_⟩
   have n4_ : Aside0 (w535.heap[gb13]? = some (.cells #[.slice Ao329 t844.length co329] 26 (0, 0))) := ⟨h4_⟩
   have n5_ : Aside0 (w535.heap[gb19]? = some (.cells #[.slice none 0 0] 26 (0, 0))) := ⟨h5_⟩
   have n6_ : Aside0 (w.heap.size ≤ gb19) := ⟨h6_⟩
   have n7_ : Aside0 (w.heap.size ≤ gb19) := ⟨h7_⟩
   have n8_ : Aside0 (gb12 ≠ gb19) := ⟨h8_⟩
   have n9_ : Aside0 (gb19 ≠ gb12) := ⟨h9_⟩
   have n10_ : Aside0 (gb13 ≠ gb19) := ⟨h10_⟩
   have n11_ : Aside0 (gb19 ≠ gb13) := ⟨h11_⟩
   have n12_ : Aside0 (Below w.heap.size w w535) := ⟨h12_⟩
   clear HO_844000
   clear HO_849000
   clear BK12
   clear BK13
   clear HB
   clear h0_ h1_ h2_ h3_ h4_ h5_ h6_ h7_ h8_ h9_ h10_ h11_ h12_
   have HO884 := n0_
   have HO_844000 := n1_
   have HO_849000 := n2_
   have BK12 := n3_
   have BK13 := n4_
   have BK19 := n5_
   have GW19 := n6_
   have GE19 := n7_
   have NB12_19 := n8_
   have NB19_12 := n9_
   have NB13_19 := n10_
   have NB19_13 := n11_
   have HB := n12_
   clear n0_ n1_ n2_ n3_ n4_ n5_ n6_ n7_ n8_ n9_ n10_ n11_ n12_
   have hHeld : w535.cell? ⟨gb13, 0, none⟩ = some (.slice Ao329 t844.length co329) ∧ w535.cell? ⟨gb12, 0, none⟩ = some (.slice (some ad881) t839.length co321) ∧ w535.cell? (ad881.add ((t842).toNat * 3)) = some (.int .i64 ((rd_T28 t839 t842).f0)) ∧ w535.cell? ⟨(ad881.add ((t842).toNat * 3)).block, (ad881.add ((t842).toNat * 3)).off + 1, none⟩ = some (.int .i64 ((rd_T28 t839 t842).f1)) ∧ w535.cell? ⟨(ad881.add ((t842).toNat * 3)).block, (ad881.add ((t842).toNat * 3)).off + 2, none⟩ = some (.int .i64 ((rd_T28 t839 t842).f2)) := hS_
   obtain ⟨Ao536, co536, eo536⟩ := Kd.R_slice HO884.out
   (first | subst eo536 | (injection eo536 with f1_ f2_ f3_; have f4_ := f1_.symm; have f5_ := f3_.symm; clear f1_ f2_ f3_; subst f4_; subst f5_))
   refine norm_ (a' := ?_) ?_ ?_
   rotate_left
   ·
    simp only [putAll, Act.put, List.setIfInBounds_toArray, List.set_cons_zero, List.set_cons_succ]
    rfl
   refine oneK HT_ 11 none (fun K hK => ?_)
   have hs537 : w535.cell? ⟨gb19, 0, none⟩ = some (.slice none 0 0) := bc BK19 0
   have hfs537 := blk_frozen BK19.out 0
   have hns537_0 := NB12_19.out
   have hns537_1 := NB13_19.out
   have hms537_0 := NB19_12.out
   have hms537_1 := NB19_13.out
   refine skip_ (w1 := ?_) (by rfl) rfl ?_ ?_
   rotate_left
   ·
    go_simp
    rfl
   refine hK.out _ _ ⟨((cell_far (p := ⟨gb19, _, none⟩) NB13_19.out _).trans (hHeld.1)), ((cell_far (p := ⟨gb19, _, none⟩) NB12_19.out _).trans (hHeld.2.1)), ((cell_far (p := ⟨gb19, _, none⟩) (by first | exact Kd.own_blk (Kd.R_ne HO_844000.out BK19.out (by decide)) | (rw [add_block]; exact Kd.own_blk (Kd.R_ne HO_844000.out BK19.out (by decide))) | (show (Addr.add _ _).block ≠ _; rw [add_block]; exact Kd.own_blk (Kd.R_ne HO_844000.out BK19.out (by decide))) | (dsimp only; exact Kd.own_blk (Kd.R_ne HO_844000.out BK19.out (by decide)))) _).trans (hHeld.2.2.1)), ((cell_far (p := ⟨gb19, _, none⟩) (by first | exact Kd.own_blk (Kd.R_ne HO_844000.out BK19.out (by decide)) | (rw [add_block]; exact Kd.own_blk (Kd.R_ne HO_844000.out BK19.out (by decide))) | (show (Addr.add _ _).block ≠ _; rw [add_block]; exact Kd.own_blk (Kd.R_ne HO_844000.out BK19.out (by decide))) | (dsimp only; exact Kd.own_blk (Kd.R_ne HO_844000.out BK19.out (by decide)))) _).trans (hHeld.2.2.2.1)), ((cell_far (p := ⟨gb19, _, none⟩) (by first | exact Kd.own_blk (Kd.R_ne HO_844000.out BK19.out (by decide)) | (rw [add_block]; exact Kd.own_blk (Kd.R_ne HO_844000.out BK19.out (by decide))) | (show (Addr.add _ _).block ≠ _; rw [add_block]; exact Kd.own_blk (Kd.R_ne HO_844000.out BK19.out (by decide))) | (dsimp only; exact Kd.own_blk (Kd.R_ne HO_844000.out BK19.out (by decide)))) _).trans (hHeld.2.2.2.2))⟩ (fun hHeld => ?_)
   clear hK K
   refine pureK HT_ 12 (some 61) ?_
   refine done_ (done_of HT_.out (by kernel_rfl)) ?_
   try go_wp2
   go_ret
   exact ⟨eqR, bw HB⟩
  replace H := bindS H; obtain ⟨t887, A520, H⟩ := H
  obtain rfl := Option.some.inj H
  try go_wp2
  replace HO_844000 := od HO_844000
  replace HO_849000 := od HO_849000
  refine md2 BK12 BK13 ?_
  clear BK12 BK13
  intro BK12 BK13
  replace HB := Aside0.mk (below_drew1 HB.out)
  have p881 : 0 ≤ (t842 : Int) := of_decide_eq_true (by first | (with_reducible assumption) | assumption)
  have q881 : t842 < (t839.length : Int) := of_decide_eq_true (by first | (with_reducible assumption) | assumption)
  obtain ⟨ad881, e881, hx881_0, hx881_1, hx881_2⟩ := at_T28 (Kd.R_reads' HO_844000.out).2.2 t842 p881 q881
  cases e881
  replace p881 := eq_true p881
  replace q881 := eq_true q881
  refine startK 13 (S := fun w' => w'.cell? ⟨gb13, 0, none⟩ = some (.slice Ao329 t844.length co329) ∧ w'.cell? ⟨gb12, 0, none⟩ = some (.slice (some ad881) t839.length co321) ∧ w'.cell? (ad881.add ((t842).toNat * 3)) = some (.int .i64 ((rd_T28 t839 t842).f0)) ∧ w'.cell? ⟨(ad881.add ((t842).toNat * 3)).block, (ad881.add ((t842).toNat * 3)).off + 1, none⟩ = some (.int .i64 ((rd_T28 t839 t842).f1)) ∧ w'.cell? ⟨(ad881.add ((t842).toNat * 3)).block, (ad881.add ((t842).toNat * 3)).off + 2, none⟩ = some (.int .i64 ((rd_T28 t839 t842).f2))) (ds := []) laws_FnSnailsHidden.tab52 laws_FnSnailsHidden.bits52 (hS := ⟨bc BK13 0, bc BK12 0, hx881_0, hx881_1, hx881_2⟩) (h := fun hHeld HT_ HW_ => ?_)
  generalize wc.drew = w521 at HO_844000 HO_849000 BK12 BK13 HB hx881_0 hx881_1 hx881_2 hHeld ⊢
  refine pureK HT_ 1 (some 423) ?_
  refine pureK HT_ 3 (some 425) ?_
  refine takeK HT_ HW_ hHeld 0 (some 422) ?_
  refine takeK HT_ HW_ hHeld 2 (some 424) ?_
  refine pureK HT_ 4 (some 426) ?_
  refine takeK HT_ HW_ hHeld 5 (some 427) ?_
  refine join_ (σ := Value × Nat) 2 #[true, true, true, true, true, true, true, true, true, true, true, false, false] (fun s_ => [(428, .tuple #[.agg #[s_.1], .bool true]), (60, .pointer (some ⟨s_.2, 0, none⟩)), (421, .tuple #[.agg #[s_.1], .bool true]), (429, .agg #[s_.1]), (430, .bool true)]) (fun s_ w' => (w'.cell? ⟨gb13, 0, none⟩ = some (.slice Ao329 t844.length co329) ∧ w'.cell? ⟨gb12, 0, none⟩ = some (.slice (some ad881) t839.length co321) ∧ w'.cell? (ad881.add ((t842).toNat * 3)) = some (.int .i64 ((rd_T28 t839 t842).f0)) ∧ w'.cell? ⟨(ad881.add ((t842).toNat * 3)).block, (ad881.add ((t842).toNat * 3)).off + 1, none⟩ = some (.int .i64 ((rd_T28 t839 t842).f1)) ∧ w'.cell? ⟨(ad881.add ((t842).toNat * 3)).block, (ad881.add ((t842).toNat * 3)).off + 2, none⟩ = some (.int .i64 ((rd_T28 t839 t842).f2))) ∧ (Kd.R k28 28 w' w.heap.size (fun k_ => some k_ ≠ (.slice (some ad881) t839.length co321 : Value).ownBlock ∧ some k_ ≠ (.slice Ao329 t844.length co329 : Value).ownBlock) s_.1 t882) ∧ (Kd.R k28 28 w' w.heap.size (fun k_ => some k_ ≠ (s_.1 : Value).ownBlock ∧ some k_ ≠ (.slice Ao329 t844.length co329 : Value).ownBlock) (.slice (some ad881) t839.length co321) t839) ∧ (Kd.R k28 28 w' w.heap.size (fun k_ => some k_ ≠ (s_.1 : Value).ownBlock ∧ some k_ ≠ (.slice (some ad881) t839.length co321 : Value).ownBlock) (.slice Ao329 t844.length co329) t844) ∧ (w'.heap[gb12]? = some (.cells #[.slice (some ad881) t839.length co321] 26 (0, 0))) ∧ (w'.heap[gb13]? = some (.cells #[.slice Ao329 t844.length co329] 26 (0, 0))) ∧ (w'.heap[s_.2]? = some (.cells #[.slice none 0 0] 26 (0, 0))) ∧ (w.heap.size ≤ s_.2) ∧ (w.heap.size ≤ s_.2) ∧ (gb12 ≠ s_.2) ∧ (s_.2 ≠ gb12) ∧ (gb13 ≠ s_.2) ∧ (s_.2 ≠ gb13) ∧ (Below w.heap.size w w')) ?_ ?_
  rotate_left
  ·
   intro hCont
   refine two_ (i := 6) (j := 10) (Ni := some 428) (Nj := some 60) #[true, true, true, true, true, true, true, false, false, false, false, false, false] #[true, true, true, true, true, true, false, false, false, false, true, false, false] rfl rfl rfl rfl (two_of HT_.out (by kernel_rfl)) (by decide) (by decide) (fun K hK => ?_) (fun K hK => ?_)
   ·
    skip
    refine goes_ Try.func18 (by kernel_rfl) rfl #[.agg #[.slice Ao329 t844.length co329], .agg #[.int .i64 ((rd_T28 t839 t842).f0), .int .i64 ((rd_T28 t839 t842).f1), .int .i64 ((rd_T28 t839 t842).f2)]] (by rfl) rfl rfl argR ?_
    with_reducible refine (impl_AddClue.calls kj510 _ _ t844 ((rd_T28 t839 t842).f0) ((rd_T28 t839 t842).f1) ((rd_T28 t839 t842).f2) t882 true _ ?side1 ?side2 A518.out).mono ?_
    (case side1 => exact rs HO_849000)
    (case side2 => exact rl HO_849000)
    rintro e w522 ⟨v883, rfl, ho0, hb⟩
    have HS2_ := (hb.cell (World.block_lt_of_cell? _ _ (hHeld.2.2.1))).trans (hHeld.2.2.1)
    have HS3_ := (hb.cell (World.block_lt_of_cell? _ _ (hHeld.2.2.2.1))).trans (hHeld.2.2.2.1)
    have HS4_ := (hb.cell (World.block_lt_of_cell? _ _ (hHeld.2.2.2.2))).trans (hHeld.2.2.2.2)
    refine ⟨_, rfl, ?_⟩
    have HO884 := Aside0.mk (Kd.R_lower (Kd.R_new' (Kd.R_new' ho0 (Kd.R_lt (ro HO_844000))) (Kd.R_lt (ro HO_849000))) (below_size (bw HB)))
    replace HO_844000 := Aside0.mk (Kd.R_elder' (ro HO_844000) (Kd.R_base ho0) hb)
    replace HO_849000 := Aside0.mk (Kd.R_elder' (ro HO_849000) (Kd.R_base ho0) hb)
    refine mv2 hb BK12 BK13 ?_
    clear BK12 BK13
    intro BK12 BK13
    replace HB := kw HB hb
    (try clear hb)
    (try clear hb2)
    (try clear hk)
    (try clear hi)
    (try clear ho0)
    refine hK.out _ _ ⟨bc BK13 0, bc BK12 0, HS2_, HS3_, HS4_⟩ (fun hHeld => ?_)
    clear hK K
    refine normK (N := some 428) (h := ?_)
    refine pureK HT_ 7 (some 421) ?_
    refine pureK HT_ 8 (some 429) ?_
    refine pureK HT_ 9 (some 430) ?_
    refine oneK HT_ 10 (some 60) (fun K hK => ?_)
    refine box_step ?hg (N := 60) ?hd (cs := #[.slice none 0 0]) (t := 26) ?hr ?_; (case hd => rfl); (case hg => rfl); (case hr => first | (go_simp; done) | (go_simp; rfl))
    intro gb19 hg w523 hbox hb
    have HS2_ := (hb.cell (World.block_lt_of_cell? _ _ (hHeld.2.2.1))).trans (hHeld.2.2.1)
    have HS3_ := (hb.cell (World.block_lt_of_cell? _ _ (hHeld.2.2.2.1))).trans (hHeld.2.2.2.1)
    have HS4_ := (hb.cell (World.block_lt_of_cell? _ _ (hHeld.2.2.2.2))).trans (hHeld.2.2.2.2)
    replace HO_844000 := ko HO_844000 hb
    replace HO_849000 := ko HO_849000 hb
    replace HO884 := ko HO884 hb
    have BK19 := Aside0.mk (hbox)
    have GW19 := gw HB hg
    have GE19 := gw HB hg
    replace HB := kw HB hb
    obtain ⟨NB12_19, NB19_12, NB13_19, NB19_13⟩ := nv2 hg BK12 BK13
    refine mv2 hb BK12 BK13 ?_
    clear BK12 BK13
    intro BK12 BK13
    clear hb hbox hg
    refine hK.out _ _ ⟨bc BK13 0, bc BK12 0, HS2_, HS3_, HS4_⟩ (fun hHeld => ?_)
    clear hK K
    refine normK (N := some 60) (h := ?_)
    exact norm_ (by simp only [putAll, Act.put, List.setIfInBounds_toArray, List.set_cons_zero, List.set_cons_succ]) (hCont (v883, gb19) _ ⟨hHeld, (by (with_reducible repeat (first | apply Kd.R_alloc | apply Kd.R_drewN | apply Kd.R_drew)); exact Kd.R_mono HO884.out (fun _ hk => ⟨hk.1.2, hk.2⟩)), (by (with_reducible repeat (first | apply Kd.R_alloc | apply Kd.R_drewN | apply Kd.R_drew)); exact Kd.R_mono HO_844000.out (fun _ hk => ⟨hk.2, hk.1⟩)), (by (with_reducible repeat (first | apply Kd.R_alloc | apply Kd.R_drewN | apply Kd.R_drew)); exact Kd.R_mono HO_849000.out (fun _ hk => ⟨hk.2, hk.1⟩)), (bk BK12), (bk BK13), (bk BK19), GW19.out, GE19.out, NB12_19.out, NB19_12.out, NB13_19.out, NB19_13.out, (bw HB)⟩)
   skip
   refine box_step ?hg (N := 60) ?hd (cs := #[.slice none 0 0]) (t := 26) ?hr ?_; (case hd => rfl); (case hg => rfl); (case hr => first | (go_simp; done) | (go_simp; rfl))
   intro gb19 hg w522 hbox hb
   have HS2_ := (hb.cell (World.block_lt_of_cell? _ _ (hHeld.2.2.1))).trans (hHeld.2.2.1)
   have HS3_ := (hb.cell (World.block_lt_of_cell? _ _ (hHeld.2.2.2.1))).trans (hHeld.2.2.2.1)
   have HS4_ := (hb.cell (World.block_lt_of_cell? _ _ (hHeld.2.2.2.2))).trans (hHeld.2.2.2.2)
   replace HO_844000 := ko HO_844000 hb
   replace HO_849000 := ko HO_849000 hb
   have BK19 := Aside0.mk (hbox)
   have GW19 := gw HB hg
   have GE19 := gw HB hg
   replace HB := kw HB hb
   obtain ⟨NB12_19, NB19_12, NB13_19, NB19_13⟩ := nv2 hg BK12 BK13
   refine mv2 hb BK12 BK13 ?_
   clear BK12 BK13
   intro BK12 BK13
   clear hb hbox hg
   refine hK.out _ _ ⟨bc BK13 0, bc BK12 0, HS2_, HS3_, HS4_⟩ (fun hHeld => ?_)
   clear hK K
   refine normK (N := some 60) (h := ?_)
   refine oneK HT_ 6 (some 428) (fun K hK => ?_)
   refine goes_ Try.func18 (by kernel_rfl) rfl #[.agg #[.slice Ao329 t844.length co329], .agg #[.int .i64 ((rd_T28 t839 t842).f0), .int .i64 ((rd_T28 t839 t842).f1), .int .i64 ((rd_T28 t839 t842).f2)]] (by rfl) rfl rfl argR ?_
   with_reducible refine (impl_AddClue.calls kj510 _ _ t844 ((rd_T28 t839 t842).f0) ((rd_T28 t839 t842).f1) ((rd_T28 t839 t842).f2) t882 true _ ?side1 ?side2 A518.out).mono ?_
   (case side1 => exact rs HO_849000)
   (case side2 => exact rl HO_849000)
   rintro e w523 ⟨v883, rfl, ho0, hb⟩
   have HS2_ := (hb.cell (World.block_lt_of_cell? _ _ (hHeld.2.2.1))).trans (hHeld.2.2.1)
   have HS3_ := (hb.cell (World.block_lt_of_cell? _ _ (hHeld.2.2.2.1))).trans (hHeld.2.2.2.1)
   have HS4_ := (hb.cell (World.block_lt_of_cell? _ _ (hHeld.2.2.2.2))).trans (hHeld.2.2.2.2)
   refine ⟨_, rfl, ?_⟩
   have HO884 := Aside0.mk (Kd.R_lower (Kd.R_new' (Kd.R_new' ho0 (Kd.R_lt (ro HO_844000))) (Kd.R_lt (ro HO_849000))) (below_size (bw HB)))
   replace HO_844000 := Aside0.mk (Kd.R_elder' (ro HO_844000) (Kd.R_base ho0) hb)
   replace HO_849000 := Aside0.mk (Kd.R_elder' (ro HO_849000) (Kd.R_base ho0) hb)
   refine mv3 hb BK12 BK13 BK19 ?_
   clear BK12 BK13 BK19
   intro BK12 BK13 BK19
   replace HB := kw HB hb
   (try clear hb)
   (try clear hb2)
   (try clear hk)
   (try clear hi)
   (try clear ho0)
   refine hK.out _ _ ⟨bc BK13 0, bc BK12 0, HS2_, HS3_, HS4_⟩ (fun hHeld => ?_)
   clear hK K
   refine normK (N := some 428) (h := ?_)
   refine pureK HT_ 7 (some 421) ?_
   refine pureK HT_ 8 (some 429) ?_
   refine pureK HT_ 9 (some 430) ?_
   exact norm_ (by simp only [putAll, Act.put, List.setIfInBounds_toArray, List.set_cons_zero, List.set_cons_succ]) (hCont (v883, gb19) _ ⟨hHeld, (by (with_reducible repeat (first | apply Kd.R_alloc | apply Kd.R_drewN | apply Kd.R_drew)); exact Kd.R_mono HO884.out (fun _ hk => ⟨hk.1.2, hk.2⟩)), (by (with_reducible repeat (first | apply Kd.R_alloc | apply Kd.R_drewN | apply Kd.R_drew)); exact Kd.R_mono HO_844000.out (fun _ hk => ⟨hk.2, hk.1⟩)), (by (with_reducible repeat (first | apply Kd.R_alloc | apply Kd.R_drewN | apply Kd.R_drew)); exact Kd.R_mono HO_849000.out (fun _ hk => ⟨hk.2, hk.1⟩)), (bk BK12), (bk BK13), (bk BK19), GW19.out, GE19.out, NB12_19.out, NB19_12.out, NB13_19.out, NB19_13.out, (bw HB)⟩)
  rintro ⟨v883, gb19⟩ w524 ⟨hS_, h0_, h1_, h2_, h3_, h4_, h5_, h6_, h7_, h8_, h9_, h10_, h11_, h12_⟩
  have n0_ : Aside0 (Kd.R k28 28 w524 w.heap.size (fun k_ => some k_ ≠ (.slice (some ad881) t839.length co321 : Value).ownBlock ∧ some k_ ≠ (.slice Ao329 t844.length co329 : Value).ownBlock) v883 t882) := ⟨h0_⟩
  have n1_ : Aside0 (Kd.R k28 28 w524 w.heap.size (fun k_ => some k_ ≠ (v883 : Value).ownBlock ∧ some k_ ≠ (.slice Ao329 t844.length co329 : Value).ownBlock) (.slice (some ad881) t839.length co321) t839) := ⟨h1_⟩
  have n2_ : Aside0 (Kd.R k28 28 w524 w.heap.size (fun k_ => some k_ ≠ (v883 : Value).ownBlock ∧ some k_ ≠ (.slice (some ad881) t839.length co321 : Value).ownBlock) (.slice Ao329 t844.length co329) t844) := ⟨h2_⟩
  have n3_ : Aside0 (w524.heap[gb12]? = some (.cells #[.slice (some ad881) t839.length co321] 26 (0, 0))) := ⟨h3_⟩
  have n4_ : Aside0 (w524.heap[gb13]? = some (.cells #[.slice Ao329 t844.length co329] 26 (0, 0))) := ⟨h4_⟩
  have n5_ : Aside0 (w524.heap[gb19]? = some (.cells #[.slice none 0 0] 26 (0, 0))) := ⟨h5_⟩
  have n6_ : Aside0 (w.heap.size ≤ gb19) := ⟨h6_⟩
  have n7_ : Aside0 (w.heap.size ≤ gb19) := ⟨h7_⟩
  have n8_ : Aside0 (gb12 ≠ gb19) := ⟨h8_⟩
  have n9_ : Aside0 (gb19 ≠ gb12) := ⟨h9_⟩
  have n10_ : Aside0 (gb13 ≠ gb19) := ⟨h10_⟩
  have n11_ : Aside0 (gb19 ≠ gb13) := ⟨h11_⟩
  have n12_ : Aside0 (Below w.heap.size w w524) := ⟨h12_⟩
  clear HO_844000
  clear HO_849000
  clear BK12
  clear BK13
  clear HB
  clear h0_ h1_ h2_ h3_ h4_ h5_ h6_ h7_ h8_ h9_ h10_ h11_ h12_
  have HO884 := n0_
  have HO_844000 := n1_
  have HO_849000 := n2_
  have BK12 := n3_
  have BK13 := n4_
  have BK19 := n5_
  have GW19 := n6_
  have GE19 := n7_
  have NB12_19 := n8_
  have NB19_12 := n9_
  have NB13_19 := n10_
  have NB19_13 := n11_
  have HB := n12_
  clear n0_ n1_ n2_ n3_ n4_ n5_ n6_ n7_ n8_ n9_ n10_ n11_ n12_
  have hHeld : w524.cell? ⟨gb13, 0, none⟩ = some (.slice Ao329 t844.length co329) ∧ w524.cell? ⟨gb12, 0, none⟩ = some (.slice (some ad881) t839.length co321) ∧ w524.cell? (ad881.add ((t842).toNat * 3)) = some (.int .i64 ((rd_T28 t839 t842).f0)) ∧ w524.cell? ⟨(ad881.add ((t842).toNat * 3)).block, (ad881.add ((t842).toNat * 3)).off + 1, none⟩ = some (.int .i64 ((rd_T28 t839 t842).f1)) ∧ w524.cell? ⟨(ad881.add ((t842).toNat * 3)).block, (ad881.add ((t842).toNat * 3)).off + 2, none⟩ = some (.int .i64 ((rd_T28 t839 t842).f2)) := hS_
  obtain ⟨Ao525, co525, eo525⟩ := Kd.R_slice HO884.out
  (first | subst eo525 | (injection eo525 with f1_ f2_ f3_; have f4_ := f1_.symm; have f5_ := f3_.symm; clear f1_ f2_ f3_; subst f4_; subst f5_))
  refine norm_ (a' := ?_) ?_ ?_
  rotate_left
  ·
   simp only [putAll, Act.put, List.setIfInBounds_toArray, List.set_cons_zero, List.set_cons_succ]
   rfl
  refine oneK HT_ 11 none (fun K hK => ?_)
  have hs526 : w524.cell? ⟨gb19, 0, none⟩ = some (.slice none 0 0) := bc BK19 0
  have hfs526 := blk_frozen BK19.out 0
  have hns526_0 := NB12_19.out
  have hns526_1 := NB13_19.out
  have hms526_0 := NB19_12.out
  have hms526_1 := NB19_13.out
  refine skip_ (w1 := ?_) (by rfl) rfl ?_ ?_
  rotate_left
  ·
   go_simp
   rfl
  refine hK.out _ _ ⟨((cell_far (p := ⟨gb19, _, none⟩) NB13_19.out _).trans (hHeld.1)), ((cell_far (p := ⟨gb19, _, none⟩) NB12_19.out _).trans (hHeld.2.1)), ((cell_far (p := ⟨gb19, _, none⟩) (by first | exact Kd.own_blk (Kd.R_ne HO_844000.out BK19.out (by decide)) | (rw [add_block]; exact Kd.own_blk (Kd.R_ne HO_844000.out BK19.out (by decide))) | (show (Addr.add _ _).block ≠ _; rw [add_block]; exact Kd.own_blk (Kd.R_ne HO_844000.out BK19.out (by decide))) | (dsimp only; exact Kd.own_blk (Kd.R_ne HO_844000.out BK19.out (by decide)))) _).trans (hHeld.2.2.1)), ((cell_far (p := ⟨gb19, _, none⟩) (by first | exact Kd.own_blk (Kd.R_ne HO_844000.out BK19.out (by decide)) | (rw [add_block]; exact Kd.own_blk (Kd.R_ne HO_844000.out BK19.out (by decide))) | (show (Addr.add _ _).block ≠ _; rw [add_block]; exact Kd.own_blk (Kd.R_ne HO_844000.out BK19.out (by decide))) | (dsimp only; exact Kd.own_blk (Kd.R_ne HO_844000.out BK19.out (by decide)))) _).trans (hHeld.2.2.2.1)), ((cell_far (p := ⟨gb19, _, none⟩) (by first | exact Kd.own_blk (Kd.R_ne HO_844000.out BK19.out (by decide)) | (rw [add_block]; exact Kd.own_blk (Kd.R_ne HO_844000.out BK19.out (by decide))) | (show (Addr.add _ _).block ≠ _; rw [add_block]; exact Kd.own_blk (Kd.R_ne HO_844000.out BK19.out (by decide))) | (dsimp only; exact Kd.own_blk (Kd.R_ne HO_844000.out BK19.out (by decide)))) _).trans (hHeld.2.2.2.2))⟩ (fun hHeld => ?_)
  clear hK K
  refine pureK HT_ 12 (some 61) ?_
  refine done_ (done_of HT_.out (by kernel_rfl)) ?_
  have hnb527 := up2 NB19_12 NB19_13
  obtain ⟨hcz529_0, hfz529_0⟩ := kc1 BK19
  have hnb530 := up1 NB12_13
  obtain ⟨hcz531_0, hfz531_0⟩ := kc1 BK12
  try go_wp2_with (first | (go_at_call 7; (with_reducible refine (laws_qClues.calls kj510 _ _ t882 _ _ t839 t887 _ ?side1 ?side2 ?side3 ?side4 A520.out).mono ?_); (case side1 => exact rsf HO884 BK19); (case side2 => exact rl HO884); (case side3 => exact rsf HO_844000 BK19); (case side4 => exact rl HO_844000); rintro e w' ⟨rfl, ⟨nd, rfl⟩⟩))
  go_ret
  exact ⟨eqR, bw HB⟩

end Go.Proofs.Ytlpjooijkeadbaa.PH
