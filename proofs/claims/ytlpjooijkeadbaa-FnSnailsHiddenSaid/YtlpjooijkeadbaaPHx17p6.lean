-- Written by a program of our own (wip/tools/xprint.py) for this claim; Lean checks it.
import Derived.Test.YtlpjooijkeadbaaPHx0
import Derived.Test.YtlpjooijkeadbaaPHx3
import Derived.Test.YtlpjooijkeadbaaPHx4
import Derived.Test.YtlpjooijkeadbaaPHx5
import Derived.Test.YtlpjooijkeadbaaPHx7
import Derived.Test.YtlpjooijkeadbaaPHx8
import Derived.Test.YtlpjooijkeadbaaPHx9
import Derived.Test.YtlpjooijkeadbaaPHx12
import Derived.Test.YtlpjooijkeadbaaPHx14
import Derived.Test.YtlpjooijkeadbaaPHx15
import Derived.Test.YtlpjooijkeadbaaPHx16
import Derived.Test.YtlpjooijkeadbaaKC
import Derived.Test.YtlpjooijkeadbaaPHx17p7
namespace Go.Proofs.Ytlpjooijkeadbaa.PH
open Go.RowKit Go.Proofs.YtlpjooijkeadbaaK Go.Proofs.YtlpjooijkeadbaaW.PrintWords Go.Proofs.YtlpjooijkeadbaaW.PrintLast Go.Proofs.YtlpjooijkeadbaaW.PrintMore
attribute [local go_sem] max2_int min2_int max_two min_two max_three min_three max_four min_four   -- for this text's walks alone
set_option linter.unusedVariables false
set_option linter.unusedSimpArgs false

attribute [local go_sem high] eqA28
set_option maxHeartbeats 8000000 in
set_option maxRecDepth 100000 in
theorem laws_FnSnailsHidden.r5 (k : Nat) (A0 : Option Addr) (c0 : Nat) (l0 : List Int) (A1 : Option Addr) (c1 : Nat) (l1 : List Int) (r : Bool) (w : World) (t762 t763 : Int) (t768 t773 : Bool) (nd gb1 gb2 gb3 : Nat) (u62 u63 u64 u65 u66 u67 u68 u69 u70 u71 u72 u73 u74 u75 u76 u77 u78 u79 u80 u81 u82 u83 u84 u85 u86 u87 u88 u89 u90 u91 u92 u93 u94 : Value) (kj7 : Nat) (HJ7 : Aside0 (kj7 + 1 ≤ k)) (u12 u13 u14 u15 u16 u17 u18 u19 u20 u21 u23 u24 u25 u95 u96 u97 u98 u99 u100 u101 u102 u103 u104 u105 u106 u107 u108 u109 u110 u111 u112 u113 u114 u115 u116 u117 u118 u119 u120 u121 u122 u123 u124 u125 u126 u127 u128 u129 u130 u131 u132 u133 u134 u135 u136 u137 u138 u139 u140 u141 u142 u143 u144 u145 u146 u147 u148 u149 u150 u151 u152 u153 u154 u155 u156 u157 u158 u159 u160 u161 u162 u163 u164 u165 u166 u167 u168 u169 u170 u171 u172 u173 u174 u175 u176 u177 u178 u179 u180 u181 u182 u183 u184 u185 u186 u187 u188 u189 u190 u191 u192 u193 u194 u195 u196 u197 : Value) (kj31 : Nat) (HJ31 : Aside0 (kj31 + 1 ≤ kj7)) (t798 t803 t805 t806 : Bool) (gb5 gb6 gb7 : Nat) (u198 u199 u200 u201 u202 u203 u204 u205 u206 u207 u208 u209 u210 u211 u212 u213 u214 u215 u216 u217 u218 u219 u220 u221 u222 u223 u224 u225 u226 u227 u228 u229 u230 u231 u232 : Value) (kj168 : Nat) (HJ168 : Aside0 (kj168 + 1 ≤ kj31)) (u4 u33 u34 u35 u36 u37 u38 u233 u234 u235 u236 u237 u238 u239 u240 u241 u242 u243 u244 u245 u246 u247 u248 u249 u250 u251 u252 u253 u254 u255 u256 u257 u258 u259 u260 u261 u262 u263 u264 u265 u266 u267 u268 u269 u270 u271 u272 u273 u274 u275 u276 u277 u278 u279 : Value) (kj207 : Nat) (HJ207 : Aside0 (kj207 + 1 ≤ kj168)) (t821 : List S28) (t824 t825 t826 : Int) (t829 : List S28) (t832 t837 : Bool) (t839 : List S28) (t842 : Int) (t844 : List S28) (t847 t852 t861 t862 t863 t864 : Bool) (Qz2 : Exit → Act → World → Prop) (hQz2 : Qz2 = bodyPost Try.prog Try.f4 fun e w' => e = Ending.returned (Value.bool r) ∧ Below w.heap.size w w') (gb8 gb9 : Nat) (NB8_9 : Aside0 (gb8 ≠ gb9)) (Ao300 : Option Addr) (co300 gb10 : Nat) (NB10_8 : Aside0 (gb10 ≠ gb8)) (NB10_9 : Aside0 (gb10 ≠ gb9)) (Ao306 : Option Addr) (co306 gb11 gb12 : Nat) (NB8_12 : Aside0 (gb8 ≠ gb12)) (NB10_12 : Aside0 (gb10 ≠ gb12)) (Ao321 : Option Addr) (co321 gb13 : Nat) (NB8_13 : Aside0 (gb8 ≠ gb13)) (NB10_13 : Aside0 (gb10 ≠ gb13)) (NB12_13 : Aside0 (gb12 ≠ gb13)) (Ao329 : Option Addr) (co329 gb14 gb15 gb16 gb17 : Nat) (Kz9 : Act → World → Prop) (az10 : ∀ (a : Act) (w : World), Code.wp Try.prog (cAt [1, 1, 1, 1, 1, 1, 1, 1, 1, 1, 1, 1, 1, 1, 1, 1, 1, 1, 1, 1, 1, 1, 1, 1] Try.f4) Qz2 a w → Kz9 a w) (Kz11 : Act → World → Prop) (az12 : ∀ (a : Act) (w : World), Code.wp Try.prog (cAt [1, 1, 1, 1, 1, 1, 1, 1, 1, 1, 1, 1, 1, 1, 1, 1, 1, 1, 1, 1, 1, 1, 1, 0, 1] Try.f4) (Exit.then Kz9 Qz2) a w → Kz11 a w) (wc : World) (u280 u281 u282 u283 u284 u285 u286 u287 u288 u289 u290 u291 u292 u293 u294 u295 u296 u297 u298 u299 u300 u301 u302 u303 u304 u305 u306 u307 u308 u309 u310 u311 u312 u313 u314 u315 u316 u317 u318 u319 u320 u321 u322 u323 u324 u325 u326 u327 u328 u329 u330 u331 u332 u333 u334 u335 u336 u337 u338 u339 u340 u341 u342 u343 u344 u345 u346 u347 u348 u349 u350 u351 u352 u353 u354 u355 u356 u357 u358 u359 u360 u361 u362 u363 u364 u365 u366 u367 u368 u369 u370 u371 u372 u373 u374 u375 u376 u377 u378 u379 u380 : Value) (kq : Nat) (x381_295 : Bool) (HA : Aside0 (j6 kq t832 t842 t847 x381_295 t821 t824 t825 t826 t829 t839 t844 = some r)) (HJ295 : Aside0 (kq ≤ kj207)) (HO_828000 : Aside0 (k28.R 28 wc w.heap.size (fun k_ => some k_ ≠ (Value.slice Ao306 t829.length co306).ownBlock ∧ some k_ ≠ (Value.slice Ao321 t839.length co321).ownBlock ∧ some k_ ≠ (Value.slice Ao329 t844.length co329).ownBlock ∧ k_ ≠ gb9) (Value.slice Ao300 t821.length co300) t821)) (HO_834000 : Aside0 (k28.R 28 wc w.heap.size (fun k_ => some k_ ≠ (Value.slice Ao300 t821.length co300).ownBlock ∧ some k_ ≠ (Value.slice Ao321 t839.length co321).ownBlock ∧ some k_ ≠ (Value.slice Ao329 t844.length co329).ownBlock ∧ k_ ≠ gb9) (Value.slice Ao306 t829.length co306) t829)) (HO_844000 : Aside0 (k28.R 28 wc w.heap.size (fun k_ => some k_ ≠ (Value.slice Ao300 t821.length co300).ownBlock ∧ some k_ ≠ (Value.slice Ao306 t829.length co306).ownBlock ∧ some k_ ≠ (Value.slice Ao329 t844.length co329).ownBlock ∧ k_ ≠ gb9) (Value.slice Ao321 t839.length co321) t839)) (HO_849000 : Aside0 (k28.R 28 wc w.heap.size (fun k_ => some k_ ≠ (Value.slice Ao300 t821.length co300).ownBlock ∧ some k_ ≠ (Value.slice Ao306 t829.length co306).ownBlock ∧ some k_ ≠ (Value.slice Ao321 t839.length co321).ownBlock ∧ k_ ≠ gb9) (Value.slice Ao329 t844.length co329) t844)) (BK8 : Aside0 (wc.heap[gb8]? = some (Obj.cells #[Value.slice Ao300 t821.length co300] 26))) (BK9 : Aside0 (wc.heap[gb9]? = some (Obj.cells #[Value.int IntKind.i64 t824, Value.int IntKind.i64 t825, Value.int IntKind.i64 t826] 28))) (BK10 : Aside0 (wc.heap[gb10]? = some (Obj.cells #[Value.slice Ao306 t829.length co306] 26))) (BK12 : Aside0 (wc.heap[gb12]? = some (Obj.cells #[Value.slice Ao321 t839.length co321] 26))) (BK13 : Aside0 (wc.heap[gb13]? = some (Obj.cells #[Value.slice Ao329 t844.length co329] 26))) (HB : Aside0 (Below w.heap.size w wc)) :
    Kz11 { tmps := #[Value.slice A0 l0.length c0, Value.slice A1 l1.length c1, undef, undef, u4, Value.pointer (some { block := gb1, off := 0 }), Value.int IntKind.i64 t762, Value.int IntKind.i64 t763, Value.pointer (some { block := gb2, off := 0 }), Value.bool t768, Value.pointer (some { block := gb3, off := 0 }), Value.bool t773, u12, u13, u14, u15, u16, u17, u18, u19, u20, u21, undef, u23, u24, u25, Value.pointer (some { block := gb5, off := 0 }), Value.pointer (some { block := gb6, off := 0 }), Value.bool t798, Value.pointer (some { block := gb7, off := 0 }), Value.bool t803, Value.bool t805, Value.bool t806, u33, u34, u35, u36, u37, u38, Value.pointer (some { block := gb8, off := 0 }), Value.pointer (some { block := gb9, off := 0 }), Value.pointer (some { block := gb10, off := 0 }), Value.bool t832, Value.pointer (some { block := gb11, off := 0 }), Value.bool t837, Value.pointer (some { block := gb12, off := 0 }), Value.int IntKind.i64 t842, Value.pointer (some { block := gb13, off := 0 }), Value.bool t847, Value.pointer (some { block := gb14, off := 0 }), Value.bool t852, Value.pointer (some { block := gb15, off := 0 }), Value.pointer (some { block := gb16, off := 0 }), Value.bool t861, Value.bool t862, Value.bool t863, Value.bool t864, Value.pointer (some { block := gb17, off := 0 }), undef, undef, undef, undef, u62, u63, u64, u65, u66, u67, u68, u69, u70, u71, u72, u73, u74, u75, u76, u77, u78, u79, u80, u81, u82, u83, u84, u85, u86, u87, u88, u89, u90, u91, u92, u93, u94, u95, u96, u97, u98, u99, u100, u101, u102, u103, u104, u105, u106, u107, u108, u109, u110, u111, u112, u113, u114, u115, u116, u117, u118, u119, u120, u121, u122, u123, u124, u125, u126, u127, u128, u129, u130, u131, u132, u133, u134, u135, u136, u137, u138, u139, u140, u141, u142, u143, u144, u145, u146, u147, u148, u149, u150, u151, u152, u153, u154, u155, u156, u157, u158, u159, u160, u161, u162, u163, u164, u165, u166, u167, u168, u169, u170, u171, u172, u173, u174, u175, u176, u177, u178, u179, u180, u181, u182, u183, u184, u185, u186, u187, u188, u189, u190, u191, u192, u193, u194, u195, u196, u197, u198, u199, u200, u201, u202, u203, u204, u205, u206, u207, u208, u209, u210, u211, u212, u213, u214, u215, u216, u217, u218, u219, u220, u221, u222, u223, u224, u225, u226, u227, u228, u229, u230, u231, u232, u233, u234, u235, u236, u237, u238, u239, u240, u241, u242, u243, u244, u245, u246, u247, u248, u249, u250, u251, u252, u253, u254, u255, u256, u257, u258, u259, u260, u261, u262, u263, u264, u265, u266, u267, u268, u269, u270, u271, u272, u273, u274, u275, u276, u277, u278, u279, u280, u281, u282, u283, u284, u285, u286, u287, u288, u289, u290, u291, u292, u293, u294, u295, u296, u297, u298, u299, u300, u301, u302, u303, u304, u305, u306, u307, u308, u309, u310, u311, u312, u313, u314, u315, u316, u317, u318, u319, u320, u321, u322, u323, u324, u325, u326, u327, u328, u329, u330, u331, u332, u333, u334, u335, u336, u337, u338, u339, u340, u341, u342, u343, u344, u345, u346, u347, u348, u349, u350, u351, u352, u353, u354, u355, u356, u357, u358, u359, u360, u361, u362, u363, u364, u365, u366, u367, u368, u369, u370, u371, u372, u373, u374, u375, u376, u377, u378, u379, u380, Value.bool x381_295, undef, undef, undef, undef, undef, undef, undef, undef, undef, undef, undef, undef, undef, undef, undef, undef, undef, undef, undef, undef, undef, undef, undef, undef, undef, undef, undef, undef, undef, undef, undef, undef, undef, undef, undef, undef, undef, undef, undef, undef, undef, undef, undef, undef, undef, undef, undef, undef, undef, undef, undef, undef, undef, undef, undef, undef, undef], defers := [] } wc  := by
 subst hQz2
 (try dsimp only)
 conv at az10 => ext a w; lhs; arg 2; whnf
 conv at az12 => ext a w; lhs; arg 2; whnf
 cases kq with
 | zero => exact absurd HA.out (by simp [laws_FnSnailsHidden.j6])
 | succ kj295 =>
  have H := HA.out
  clear HA
  simp only [laws_FnSnailsHidden.j6] at H
  replace H := iteB H; rcases H with ⟨rfl, H⟩ | ⟨rfl, H⟩
  ·
   obtain rfl := Option.some.inj H
   go_wp2
   go_ret
   exact ⟨eqR, bw HB⟩
  have HC422 := Aside0.mk H
  clear H
  go_upto_if 382 with (fail)
  go_cut [381, 382] from 1 to 0 (fun _ _ wc => ∃ (kq : Nat), Aside0 (laws_FnSnailsHidden.j7 kq t842 t847 t839 t844 = some r) ∧ Aside0 (kq ≤ kj295) ∧ Aside0 (Kd.R k28 28 wc w.heap.size (fun k_ => some k_ ≠ ((.slice Ao329 t844.length co329) : Value).ownBlock) (.slice Ao321 t839.length co321) t839) ∧ Aside0 (Kd.R k28 28 wc w.heap.size (fun k_ => some k_ ≠ ((.slice Ao321 t839.length co321) : Value).ownBlock) (.slice Ao329 t844.length co329) t844) ∧ Aside0 (wc.heap[gb12]? = some (.cells #[(.slice Ao321 t839.length co321)] 26 (0, 0))) ∧ Aside0 (wc.heap[gb13]? = some (.cells #[(.slice Ao329 t844.length co329)] 26 (0, 0))) ∧ Aside0 (Below w.heap.size w wc))
  case first =>
   have H := HC422.out
   clear HC422
   replace H := iteB H; rcases H with ⟨rfl, H⟩ | ⟨rfl, H⟩
   rotate_left
   ·
    have H' := Aside0.mk H
    clear H
    go_wp2
    go_meet
    case rel => exact ⟨_, H', ⟨by have := HJ7.out; have := HJ31.out; have := HJ168.out; have := HJ207.out; have := HJ295.out; first | omega | exact Nat.le_refl _⟩, ⟨by (with_reducible repeat (first | apply Kd.R_alloc | apply Kd.R_drewN | apply Kd.R_drew)); exact Kd.R_mono HO_844000.out (fun _ hk => hk.2.2.1)⟩, ⟨by (with_reducible repeat (first | apply Kd.R_alloc | apply Kd.R_drewN | apply Kd.R_drew)); exact Kd.R_mono HO_849000.out (fun _ hk => hk.2.2.1)⟩, ⟨bk BK12⟩, ⟨bk BK13⟩, ⟨bw HB⟩⟩
   replace H := bindS H; obtain ⟨⟨t874, t877⟩, A424, H⟩ := H
   replace H := iteB H; rcases H with ⟨rfl, H⟩ | ⟨rfl, H⟩
   rotate_left
   ·
    obtain rfl := Option.some.inj H
    have hnb491 := up4 NB10_8 NB10_9 NB10_12 NB10_13
    obtain ⟨hcz495_0, hfz495_0⟩ := kc1 BK10
    have hnb496 := up3 NB8_9 NB8_12 NB8_13
    obtain ⟨hcz499_0, hfz499_0⟩ := kc1 BK8
    try go_wp2_with (first | ((with_reducible refine gate_callee (f := 20) rfl ?_); refine goK (some 388) Try.func20 #[.agg #[.slice Ao306 t829.length co306], .int .i64 (t821.length : Int)] ?_; (with_reducible refine (impl_DropClue.calls kj295 _ _ t829 (t821.length : Int) t874 false _ ?side1 ?side2 A424.out).mono ?_); (case side1 => exact rs HO_834000); (case side2 => exact rl HO_834000); rintro e w500 ⟨v875, rfl, ho0, hb⟩; refine ⟨_, rfl, ?_⟩; have HO876 := Aside0.mk (Kd.R_lower (Kd.R_newB (Kd.R_new' (Kd.R_new' (Kd.R_new' (Kd.R_new' ho0 (Kd.R_lt (ro HO_828000))) (Kd.R_lt (ro HO_834000))) (Kd.R_lt (ro HO_844000))) (Kd.R_lt (ro HO_849000))) (bk BK9)) (below_size (bw HB))); replace HO_828000 := Aside0.mk (Kd.R_elder' (ro HO_828000) (Kd.R_base ho0) hb); replace HO_834000 := Aside0.mk (Kd.R_elder' (ro HO_834000) (Kd.R_base ho0) hb); replace HO_844000 := Aside0.mk (Kd.R_elder' (ro HO_844000) (Kd.R_base ho0) hb); replace HO_849000 := Aside0.mk (Kd.R_elder' (ro HO_849000) (Kd.R_base ho0) hb); refine mv5 hb BK8 BK9 BK10 BK12 BK13 ?_; clear BK8 BK9 BK10 BK12 BK13; intro BK8 BK9 BK10 BK12 BK13; replace HB := kw HB hb; (try clear hb); (try clear ho0)) | ((with_reducible refine gate_dst (N := 58) rfl ?_); (try (refine gate_guard (by rfl) ?_; dsimp only)); refine boxK HB (N := 58) (cs := #[.slice none 0 0]) (t := 26) (h := ?_); clear HB; intro gb18 hg w501 BK18 GW18 GE18 HB hb; replace HO_828000 := ko HO_828000 hb; replace HO_834000 := ko HO_834000 hb; replace HO_844000 := ko HO_844000 hb; replace HO_849000 := ko HO_849000 hb; replace HO876 := ko HO876 hb; obtain ⟨NB8_18, NB18_8, NB9_18, NB18_9, NB10_18, NB18_10, NB12_18, NB18_12, NB13_18, NB18_13⟩ := nv5 hg BK8 BK9 BK10 BK12 BK13; refine mv5 hb BK8 BK9 BK10 BK12 BK13 ?_; clear BK8 BK9 BK10 BK12 BK13; intro BK8 BK9 BK10 BK12 BK13; clear hb hg; obtain ⟨Ao502, co502, eo502⟩ := Kd.R_slice HO876.out; subst eo502; have hnb503 := up5 NB18_8 NB18_9 NB18_10 NB18_12 NB18_13; obtain ⟨hcz508_0, hfz508_0⟩ := kc1 BK18))
    have n0_ : Aside0 (Kd.R k28 28 (w501.setCell ⟨gb18, 0, none⟩ (.slice Ao502 t874.length co502)) w.heap.size (fun k_ => some k_ ≠ (.slice Ao306 t829.length co306 : Value).ownBlock ∧ some k_ ≠ (.slice Ao321 t839.length co321 : Value).ownBlock ∧ some k_ ≠ (.slice Ao329 t844.length co329 : Value).ownBlock ∧ some k_ ≠ (.slice Ao502 t874.length co502 : Value).ownBlock ∧ k_ ≠ gb9) (.slice Ao300 t821.length co300) t821) := ⟨by (with_reducible repeat (first | apply Kd.R_alloc | apply Kd.R_drewN | apply Kd.R_drew)); exact Kd.R_mono (Kd.R_far (p := ⟨gb18, 0, none⟩) (Kd.R_types HO_828000.out BK18.out (by decide)) (fun _ hk => hk.2) (.slice Ao502 t874.length co502)) (fun _ hk => ⟨hk.1.1.1, ⟨hk.1.1.2.1, ⟨hk.1.1.2.2.1, ⟨hk.1.2, hk.1.1.2.2.2⟩⟩⟩⟩)⟩
    have n1_ : Aside0 (Kd.R k28 28 (w501.setCell ⟨gb18, 0, none⟩ (.slice Ao502 t874.length co502)) w.heap.size (fun k_ => some k_ ≠ (.slice Ao300 t821.length co300 : Value).ownBlock ∧ some k_ ≠ (.slice Ao321 t839.length co321 : Value).ownBlock ∧ some k_ ≠ (.slice Ao329 t844.length co329 : Value).ownBlock ∧ some k_ ≠ (.slice Ao502 t874.length co502 : Value).ownBlock ∧ k_ ≠ gb9) (.slice Ao306 t829.length co306) t829) := ⟨by (with_reducible repeat (first | apply Kd.R_alloc | apply Kd.R_drewN | apply Kd.R_drew)); exact Kd.R_mono (Kd.R_far (p := ⟨gb18, 0, none⟩) (Kd.R_types HO_834000.out BK18.out (by decide)) (fun _ hk => hk.2) (.slice Ao502 t874.length co502)) (fun _ hk => ⟨hk.1.1.1, ⟨hk.1.1.2.1, ⟨hk.1.1.2.2.1, ⟨hk.1.2, hk.1.1.2.2.2⟩⟩⟩⟩)⟩
    have n2_ : Aside0 (Kd.R k28 28 (w501.setCell ⟨gb18, 0, none⟩ (.slice Ao502 t874.length co502)) w.heap.size (fun k_ => some k_ ≠ (.slice Ao300 t821.length co300 : Value).ownBlock ∧ some k_ ≠ (.slice Ao306 t829.length co306 : Value).ownBlock ∧ some k_ ≠ (.slice Ao329 t844.length co329 : Value).ownBlock ∧ some k_ ≠ (.slice Ao502 t874.length co502 : Value).ownBlock ∧ k_ ≠ gb9) (.slice Ao321 t839.length co321) t839) := ⟨by (with_reducible repeat (first | apply Kd.R_alloc | apply Kd.R_drewN | apply Kd.R_drew)); exact Kd.R_mono (Kd.R_far (p := ⟨gb18, 0, none⟩) (Kd.R_types HO_844000.out BK18.out (by decide)) (fun _ hk => hk.2) (.slice Ao502 t874.length co502)) (fun _ hk => ⟨hk.1.1.1, ⟨hk.1.1.2.1, ⟨hk.1.1.2.2.1, ⟨hk.1.2, hk.1.1.2.2.2⟩⟩⟩⟩)⟩
    have n3_ : Aside0 (Kd.R k28 28 (w501.setCell ⟨gb18, 0, none⟩ (.slice Ao502 t874.length co502)) w.heap.size (fun k_ => some k_ ≠ (.slice Ao300 t821.length co300 : Value).ownBlock ∧ some k_ ≠ (.slice Ao306 t829.length co306 : Value).ownBlock ∧ some k_ ≠ (.slice Ao321 t839.length co321 : Value).ownBlock ∧ some k_ ≠ (.slice Ao502 t874.length co502 : Value).ownBlock ∧ k_ ≠ gb9) (.slice Ao329 t844.length co329) t844) := ⟨by (with_reducible repeat (first | apply Kd.R_alloc | apply Kd.R_drewN | apply Kd.R_drew)); exact Kd.R_mono (Kd.R_far (p := ⟨gb18, 0, none⟩) (Kd.R_types HO_849000.out BK18.out (by decide)) (fun _ hk => hk.2) (.slice Ao502 t874.length co502)) (fun _ hk => ⟨hk.1.1.1, ⟨hk.1.1.2.1, ⟨hk.1.1.2.2.1, ⟨hk.1.2, hk.1.1.2.2.2⟩⟩⟩⟩)⟩
    have n4_ : Aside0 (Kd.R k28 28 (w501.setCell ⟨gb18, 0, none⟩ (.slice Ao502 t874.length co502)) w.heap.size (fun k_ => some k_ ≠ (.slice Ao300 t821.length co300 : Value).ownBlock ∧ some k_ ≠ (.slice Ao306 t829.length co306 : Value).ownBlock ∧ some k_ ≠ (.slice Ao321 t839.length co321 : Value).ownBlock ∧ some k_ ≠ (.slice Ao329 t844.length co329 : Value).ownBlock ∧ k_ ≠ gb9) (.slice Ao502 t874.length co502) t874) := ⟨by (with_reducible repeat (first | apply Kd.R_alloc | apply Kd.R_drewN | apply Kd.R_drew)); exact Kd.R_mono (Kd.R_far (p := ⟨gb18, 0, none⟩) (Kd.R_types HO876.out BK18.out (by decide)) (fun _ hk => hk.2) (.slice Ao502 t874.length co502)) (fun _ hk => ⟨hk.1.1.1.1.1.2, ⟨hk.1.1.1.1.2, ⟨hk.1.1.1.2, ⟨hk.1.1.2, hk.1.2⟩⟩⟩⟩)⟩
    have n5_ : Aside0 ((w501.setCell ⟨gb18, 0, none⟩ (.slice Ao502 t874.length co502)).heap[gb8]? = some (.cells #[.slice Ao300 t821.length co300] 26 (0, 0))) := ⟨bf BK8 NB8_18⟩
    have n6_ : Aside0 ((w501.setCell ⟨gb18, 0, none⟩ (.slice Ao502 t874.length co502)).heap[gb9]? = some (.cells #[.int .i64 t824, .int .i64 t825, .int .i64 t826] 28 (0, 0))) := ⟨bf BK9 NB9_18⟩
    have n7_ : Aside0 ((w501.setCell ⟨gb18, 0, none⟩ (.slice Ao502 t874.length co502)).heap[gb10]? = some (.cells #[.slice Ao306 t829.length co306] 26 (0, 0))) := ⟨bf BK10 NB10_18⟩
    have n8_ : Aside0 ((w501.setCell ⟨gb18, 0, none⟩ (.slice Ao502 t874.length co502)).heap[gb12]? = some (.cells #[.slice Ao321 t839.length co321] 26 (0, 0))) := ⟨bf BK12 NB12_18⟩
    have n9_ : Aside0 ((w501.setCell ⟨gb18, 0, none⟩ (.slice Ao502 t874.length co502)).heap[gb13]? = some (.cells #[.slice Ao329 t844.length co329] 26 (0, 0))) := ⟨bf BK13 NB13_18⟩
    have n10_ : Aside0 ((w501.setCell ⟨gb18, 0, none⟩ (.slice Ao502 t874.length co502)).heap[gb18]? = some (.cells #[.slice Ao502 t874.length co502] 26 (0, 0))) := ⟨bt BK18⟩
    have n11_ : Aside0 (Below w.heap.size w (w501.setCell ⟨gb18, 0, none⟩ (.slice Ao502 t874.length co502))) := ⟨bw HB⟩
    (try clear HO_828000)
    (try clear HO_834000)
    (try clear HO_844000)
    (try clear HO_849000)
    (try clear HO876)
    (try clear BK8)
    (try clear BK9)
    (try clear BK10)
    (try clear BK12)
    (try clear BK13)
    (try clear BK18)
    (try clear HB)
    generalize (w501.setCell ⟨gb18, 0, none⟩ (.slice Ao502 t874.length co502)) = w509 at n0_ n1_ n2_ n3_ n4_ n5_ n6_ n7_ n8_ n9_ n10_ n11_ ⊢
    have HO_828000 := n0_
    have HO_834000 := n1_
    have HO_844000 := n2_
    have HO_849000 := n3_
    have HO876 := n4_
    have BK8 := n5_
    have BK9 := n6_
    have BK10 := n7_
    have BK12 := n8_
    have BK13 := n9_
    have BK18 := n10_
    have HB := n11_
    clear n0_ n1_ n2_ n3_ n4_ n5_ n6_ n7_ n8_ n9_ n10_ n11_
    replace HO_828000 := od HO_828000
    replace HO_834000 := od HO_834000
    replace HO_844000 := od HO_844000
    replace HO_849000 := od HO_849000
    replace HO876 := od HO876
    refine md6 BK8 BK9 BK10 BK12 BK13 BK18 ?_
    clear BK8 BK9 BK10 BK12 BK13 BK18
    intro BK8 BK9 BK10 BK12 BK13 BK18
    replace HB := Aside0.mk (below_drew1 HB.out)
    refine startK 21 (S := fun w' => True) (ds := []) laws_FnSnailsHidden.tab49 laws_FnSnailsHidden.bits49 (hS := trivial) (h := fun hHeld HT_ HW_ => ?_)
    generalize w509.drew = w510 at HO_828000 HO_834000 HO_844000 HO_849000 HO876 BK8 BK9 BK10 BK12 BK13 BK18 HB hHeld ⊢
    refine pureK HT_ 0 (some 391) ?_
    refine pureK HT_ 1 (some 392) ?_
    refine pureK HT_ 2 (some 393) ?_
    refine offK HT_ 3 (some 394) ?_
    refine offK HT_ 4 (some 395) ?_
    refine offK HT_ 5 (some 396) ?_
    refine offK HT_ 6 (some 397) ?_
    refine offK HT_ 7 (some 398) ?_
    refine offK HT_ 8 (some 399) ?_
    refine pureK HT_ 9 (some 400) ?_
    refine pureK HT_ 10 (some 401) ?_
    refine offK HT_ 11 (some 402) ?_
    refine offK HT_ 12 (some 403) ?_
    refine offK HT_ 13 (some 404) ?_
    refine offK HT_ 14 (some 405) ?_
    refine offK HT_ 15 (some 406) ?_
    refine offK HT_ 16 (some 407) ?_
    refine offK HT_ 17 (some 408) ?_
    refine offK HT_ 18 (some 409) ?_
    refine offK HT_ 19 (some 410) ?_
    refine pureK HT_ 20 (some 411) ?_
    refine done_ (done_of HT_.out (by kernel_rfl)) ?_
    try go_wp2
    go_ret
    exact ⟨eqR, bw HB⟩
   replace H := bindS H; obtain ⟨t879, A426, H⟩ := H
   replace H := iteB H; rcases H with ⟨rfl, H⟩ | ⟨rfl, H⟩
   rotate_left
   ·
    obtain rfl := Option.some.inj H
    have hnb471 := up4 NB10_8 NB10_9 NB10_12 NB10_13
    obtain ⟨hcz475_0, hfz475_0⟩ := kc1 BK10
    have hnb476 := up3 NB8_9 NB8_12 NB8_13
    obtain ⟨hcz479_0, hfz479_0⟩ := kc1 BK8
    try go_wp2_with (first | ((with_reducible refine gate_callee (f := 20) rfl ?_); refine goK (some 388) Try.func20 #[.agg #[.slice Ao306 t829.length co306], .int .i64 (t821.length : Int)] ?_; (with_reducible refine (impl_DropClue.calls kj295 _ _ t829 (t821.length : Int) t874 true _ ?side1 ?side2 A424.out).mono ?_); (case side1 => exact rs HO_834000); (case side2 => exact rl HO_834000); rintro e w480 ⟨v875, rfl, ho0, hb⟩; refine ⟨_, rfl, ?_⟩; have HO876 := Aside0.mk (Kd.R_lower (Kd.R_newB (Kd.R_new' (Kd.R_new' (Kd.R_new' (Kd.R_new' ho0 (Kd.R_lt (ro HO_828000))) (Kd.R_lt (ro HO_834000))) (Kd.R_lt (ro HO_844000))) (Kd.R_lt (ro HO_849000))) (bk BK9)) (below_size (bw HB))); replace HO_828000 := Aside0.mk (Kd.R_elder' (ro HO_828000) (Kd.R_base ho0) hb); replace HO_834000 := Aside0.mk (Kd.R_elder' (ro HO_834000) (Kd.R_base ho0) hb); replace HO_844000 := Aside0.mk (Kd.R_elder' (ro HO_844000) (Kd.R_base ho0) hb); replace HO_849000 := Aside0.mk (Kd.R_elder' (ro HO_849000) (Kd.R_base ho0) hb); refine mv5 hb BK8 BK9 BK10 BK12 BK13 ?_; clear BK8 BK9 BK10 BK12 BK13; intro BK8 BK9 BK10 BK12 BK13; replace HB := kw HB hb; (try clear hb); (try clear ho0)) | ((with_reducible refine gate_dst (N := 58) rfl ?_); (try (refine gate_guard (by rfl) ?_; dsimp only)); refine boxK HB (N := 58) (cs := #[.slice none 0 0]) (t := 26) (h := ?_); clear HB; intro gb18 hg w481 BK18 GW18 GE18 HB hb; replace HO_828000 := ko HO_828000 hb; replace HO_834000 := ko HO_834000 hb; replace HO_844000 := ko HO_844000 hb; replace HO_849000 := ko HO_849000 hb; replace HO876 := ko HO876 hb; obtain ⟨NB8_18, NB18_8, NB9_18, NB18_9, NB10_18, NB18_10, NB12_18, NB18_12, NB13_18, NB18_13⟩ := nv5 hg BK8 BK9 BK10 BK12 BK13; refine mv5 hb BK8 BK9 BK10 BK12 BK13 ?_; clear BK8 BK9 BK10 BK12 BK13; intro BK8 BK9 BK10 BK12 BK13; clear hb hg; obtain ⟨Ao482, co482, eo482⟩ := Kd.R_slice HO876.out; subst eo482; have hnb483 := up5 NB18_8 NB18_9 NB18_10 NB18_12 NB18_13; obtain ⟨hcz488_0, hfz488_0⟩ := kc1 BK18))
    have n0_ : Aside0 (Kd.R k28 28 (w481.setCell ⟨gb18, 0, none⟩ (.slice Ao482 t874.length co482)) w.heap.size (fun k_ => some k_ ≠ (.slice Ao306 t829.length co306 : Value).ownBlock ∧ some k_ ≠ (.slice Ao321 t839.length co321 : Value).ownBlock ∧ some k_ ≠ (.slice Ao329 t844.length co329 : Value).ownBlock ∧ some k_ ≠ (.slice Ao482 t874.length co482 : Value).ownBlock ∧ k_ ≠ gb9) (.slice Ao300 t821.length co300) t821) := ⟨by (with_reducible repeat (first | apply Kd.R_alloc | apply Kd.R_drewN | apply Kd.R_drew)); exact Kd.R_mono (Kd.R_far (p := ⟨gb18, 0, none⟩) (Kd.R_types HO_828000.out BK18.out (by decide)) (fun _ hk => hk.2) (.slice Ao482 t874.length co482)) (fun _ hk => ⟨hk.1.1.1, ⟨hk.1.1.2.1, ⟨hk.1.1.2.2.1, ⟨hk.1.2, hk.1.1.2.2.2⟩⟩⟩⟩)⟩
    have n1_ : Aside0 (Kd.R k28 28 (w481.setCell ⟨gb18, 0, none⟩ (.slice Ao482 t874.length co482)) w.heap.size (fun k_ => some k_ ≠ (.slice Ao300 t821.length co300 : Value).ownBlock ∧ some k_ ≠ (.slice Ao321 t839.length co321 : Value).ownBlock ∧ some k_ ≠ (.slice Ao329 t844.length co329 : Value).ownBlock ∧ some k_ ≠ (.slice Ao482 t874.length co482 : Value).ownBlock ∧ k_ ≠ gb9) (.slice Ao306 t829.length co306) t829) := ⟨by (with_reducible repeat (first | apply Kd.R_alloc | apply Kd.R_drewN | apply Kd.R_drew)); exact Kd.R_mono (Kd.R_far (p := ⟨gb18, 0, none⟩) (Kd.R_types HO_834000.out BK18.out (by decide)) (fun _ hk => hk.2) (.slice Ao482 t874.length co482)) (fun _ hk => ⟨hk.1.1.1, ⟨hk.1.1.2.1, ⟨hk.1.1.2.2.1, ⟨hk.1.2, hk.1.1.2.2.2⟩⟩⟩⟩)⟩
    have n2_ : Aside0 (Kd.R k28 28 (w481.setCell ⟨gb18, 0, none⟩ (.slice Ao482 t874.length co482)) w.heap.size (fun k_ => some k_ ≠ (.slice Ao300 t821.length co300 : Value).ownBlock ∧ some k_ ≠ (.slice Ao306 t829.length co306 : Value).ownBlock ∧ some k_ ≠ (.slice Ao329 t844.length co329 : Value).ownBlock ∧ some k_ ≠ (.slice Ao482 t874.length co482 : Value).ownBlock ∧ k_ ≠ gb9) (.slice Ao321 t839.length co321) t839) := ⟨by (with_reducible repeat (first | apply Kd.R_alloc | apply Kd.R_drewN | apply Kd.R_drew)); exact Kd.R_mono (Kd.R_far (p := ⟨gb18, 0, none⟩) (Kd.R_types HO_844000.out BK18.out (by decide)) (fun _ hk => hk.2) (.slice Ao482 t874.length co482)) (fun _ hk => ⟨hk.1.1.1, ⟨hk.1.1.2.1, ⟨hk.1.1.2.2.1, ⟨hk.1.2, hk.1.1.2.2.2⟩⟩⟩⟩)⟩
    have n3_ : Aside0 (Kd.R k28 28 (w481.setCell ⟨gb18, 0, none⟩ (.slice Ao482 t874.length co482)) w.heap.size (fun k_ => some k_ ≠ (.slice Ao300 t821.length co300 : Value).ownBlock ∧ some k_ ≠ (.slice Ao306 t829.length co306 : Value).ownBlock ∧ some k_ ≠ (.slice Ao321 t839.length co321 : Value).ownBlock ∧ some k_ ≠ (.slice Ao482 t874.length co482 : Value).ownBlock ∧ k_ ≠ gb9) (.slice Ao329 t844.length co329) t844) := ⟨by (with_reducible repeat (first | apply Kd.R_alloc | apply Kd.R_drewN | apply Kd.R_drew)); exact Kd.R_mono (Kd.R_far (p := ⟨gb18, 0, none⟩) (Kd.R_types HO_849000.out BK18.out (by decide)) (fun _ hk => hk.2) (.slice Ao482 t874.length co482)) (fun _ hk => ⟨hk.1.1.1, ⟨hk.1.1.2.1, ⟨hk.1.1.2.2.1, ⟨hk.1.2, hk.1.1.2.2.2⟩⟩⟩⟩)⟩
    have n4_ : Aside0 (Kd.R k28 28 (w481.setCell ⟨gb18, 0, none⟩ (.slice Ao482 t874.length co482)) w.heap.size (fun k_ => some k_ ≠ (.slice Ao300 t821.length co300 : Value).ownBlock ∧ some k_ ≠ (.slice Ao306 t829.length co306 : Value).ownBlock ∧ some k_ ≠ (.slice Ao321 t839.length co321 : Value).ownBlock ∧ some k_ ≠ (.slice Ao329 t844.length co329 : Value).ownBlock ∧ k_ ≠ gb9) (.slice Ao482 t874.length co482) t874) := ⟨by (with_reducible repeat (first | apply Kd.R_alloc | apply Kd.R_drewN | apply Kd.R_drew)); exact Kd.R_mono (Kd.R_far (p := ⟨gb18, 0, none⟩) (Kd.R_types HO876.out BK18.out (by decide)) (fun _ hk => hk.2) (.slice Ao482 t874.length co482)) (fun _ hk => ⟨hk.1.1.1.1.1.2, ⟨hk.1.1.1.1.2, ⟨hk.1.1.1.2, ⟨hk.1.1.2, hk.1.2⟩⟩⟩⟩)⟩
    have n5_ : Aside0 ((w481.setCell ⟨gb18, 0, none⟩ (.slice Ao482 t874.length co482)).heap[gb8]? = some (.cells #[.slice Ao300 t821.length co300] 26 (0, 0))) := ⟨bf BK8 NB8_18⟩
    have n6_ : Aside0 ((w481.setCell ⟨gb18, 0, none⟩ (.slice Ao482 t874.length co482)).heap[gb9]? = some (.cells #[.int .i64 t824, .int .i64 t825, .int .i64 t826] 28 (0, 0))) := ⟨bf BK9 NB9_18⟩
    have n7_ : Aside0 ((w481.setCell ⟨gb18, 0, none⟩ (.slice Ao482 t874.length co482)).heap[gb10]? = some (.cells #[.slice Ao306 t829.length co306] 26 (0, 0))) := ⟨bf BK10 NB10_18⟩
    have n8_ : Aside0 ((w481.setCell ⟨gb18, 0, none⟩ (.slice Ao482 t874.length co482)).heap[gb12]? = some (.cells #[.slice Ao321 t839.length co321] 26 (0, 0))) := ⟨bf BK12 NB12_18⟩
    have n9_ : Aside0 ((w481.setCell ⟨gb18, 0, none⟩ (.slice Ao482 t874.length co482)).heap[gb13]? = some (.cells #[.slice Ao329 t844.length co329] 26 (0, 0))) := ⟨bf BK13 NB13_18⟩
    have n10_ : Aside0 ((w481.setCell ⟨gb18, 0, none⟩ (.slice Ao482 t874.length co482)).heap[gb18]? = some (.cells #[.slice Ao482 t874.length co482] 26 (0, 0))) := ⟨bt BK18⟩
    have n11_ : Aside0 (Below w.heap.size w (w481.setCell ⟨gb18, 0, none⟩ (.slice Ao482 t874.length co482))) := ⟨bw HB⟩
    (try clear HO_828000)
    (try clear HO_834000)
    (try clear HO_844000)
    (try clear HO_849000)
    (try clear HO876)
    (try clear BK8)
    (try clear BK9)
    (try clear BK10)
    (try clear BK12)
    (try clear BK13)
    (try clear BK18)
    (try clear HB)
    generalize (w481.setCell ⟨gb18, 0, none⟩ (.slice Ao482 t874.length co482)) = w489 at n0_ n1_ n2_ n3_ n4_ n5_ n6_ n7_ n8_ n9_ n10_ n11_ ⊢
    have HO_828000 := n0_
    have HO_834000 := n1_
    have HO_844000 := n2_
    have HO_849000 := n3_
    have HO876 := n4_
    have BK8 := n5_
    have BK9 := n6_
    have BK10 := n7_
    have BK12 := n8_
    have BK13 := n9_
    have BK18 := n10_
    have HB := n11_
    clear n0_ n1_ n2_ n3_ n4_ n5_ n6_ n7_ n8_ n9_ n10_ n11_
    replace HO_828000 := od HO_828000
    replace HO_834000 := od HO_834000
    replace HO_844000 := od HO_844000
    replace HO_849000 := od HO_849000
    replace HO876 := od HO876
    refine md6 BK8 BK9 BK10 BK12 BK13 BK18 ?_
    clear BK8 BK9 BK10 BK12 BK13 BK18
    intro BK8 BK9 BK10 BK12 BK13 BK18
    replace HB := Aside0.mk (below_drew1 HB.out)
    refine startK 21 (S := fun w' => w'.cell? ⟨gb18, 0, none⟩ = some (.slice Ao482 t874.length co482) ∧ w'.cell? ⟨gb8, 0, none⟩ = some (.slice Ao300 t821.length co300)) (ds := []) laws_FnSnailsHidden.tab49 laws_FnSnailsHidden.bits49 (hS := ⟨bc BK18 0, bc BK8 0⟩) (h := fun hHeld HT_ HW_ => ?_)
    generalize w489.drew = w490 at HO_828000 HO_834000 HO_844000 HO_849000 HO876 BK8 BK9 BK10 BK12 BK13 BK18 HB hHeld ⊢
    refine pureK HT_ 0 (some 391) ?_
    refine pureK HT_ 1 (some 392) ?_
    refine pureK HT_ 2 (some 393) ?_
    refine pureK HT_ 3 (some 394) ?_
    refine pureK HT_ 5 (some 396) ?_
    refine takeK HT_ HW_ hHeld 4 (some 395) ?_
    refine takeK HT_ HW_ hHeld 6 (some 397) ?_
    refine oneK HT_ 7 (some 398) (fun K hK => ?_)
    refine goes_ Try.func7 (by kernel_rfl) rfl #[.slice Ao482 t874.length co482, .slice Ao300 t821.length co300] (by rfl) rfl rfl argR ?_
    with_reducible refine (laws_qClues.calls kj295 _ _ t874 _ _ t821 false _ ?side1 ?side2 ?side3 ?side4 A426.out).mono ?_
    (case side1 => exact rs HO876)
    (case side2 => exact rl HO876)
    (case side3 => exact rs HO_828000)
    (case side4 => exact rl HO_828000)
    rintro e w' ⟨rfl, ⟨nd, rfl⟩⟩
    refine ⟨_, rfl, ?_⟩
    refine hK.out _ _ ⟨bc BK18 0, bc BK8 0⟩ (fun hHeld => ?_)
    clear hK K
    refine normK (N := some 398) (h := ?_)
    refine pureK HT_ 8 (some 399) ?_
    refine pureK HT_ 9 (some 400) ?_
    refine pureK HT_ 10 (some 401) ?_
    refine offK HT_ 11 (some 402) ?_
    refine offK HT_ 12 (some 403) ?_
    refine offK HT_ 13 (some 404) ?_
    refine offK HT_ 14 (some 405) ?_
    refine offK HT_ 15 (some 406) ?_
    refine offK HT_ 16 (some 407) ?_
    refine offK HT_ 17 (some 408) ?_
    refine offK HT_ 18 (some 409) ?_
    refine offK HT_ 19 (some 410) ?_
    refine pureK HT_ 20 (some 411) ?_
    refine done_ (done_of HT_.out (by kernel_rfl)) ?_
    try go_wp2
    go_ret
    exact ⟨eqR, bw HB⟩
   replace H := iteS H; obtain ⟨c428, H⟩ := H
   have c428b0 : decide (0 ≤ (t821.length : Int)) = true := decide_eq_true c428
   have c428b1 : decide (0 ≤ t821.length) = true := decide_eq_true (by omega)
   clear c428
   (first | rw [c428b0] | (simp only [i64_w, i32_w]; rw [c428b0]) | skip)
   replace H := iteS H; obtain ⟨c429, H⟩ := H
   have c429b0 : decide ((t821.length : Int) < (t829.length : Int)) = true := decide_eq_true c429
   have c429b1 : decide (t821.length < t829.length) = true := decide_eq_true (Int.ofNat_lt.mp c429)
   clear c429
   replace H := iteC H; rcases H with ⟨c430, H⟩ | ⟨c430, H⟩
   ·
    have c430b0 : (!(((rd_T28 t829 (t821.length : Int)).f0) == t824) || (!(((rd_T28 t829 (t821.length : Int)).f1) == t825) || (!(((rd_T28 t829 (t821.length : Int)).f2) == t826)))) = true := c430
    clear c430
    obtain rfl := Option.some.inj H
    have hnb431 := up4 NB10_8 NB10_9 NB10_12 NB10_13
    obtain ⟨hcz435_0, hfz435_0⟩ := kc1 BK10
    have hnb436 := up3 NB8_9 NB8_12 NB8_13
    obtain ⟨hcz439_0, hfz439_0⟩ := kc1 BK8
    try go_wp2_with (first | ((with_reducible refine gate_callee (f := 20) rfl ?_); refine goK (some 388) Try.func20 #[.agg #[.slice Ao306 t829.length co306], .int .i64 (t821.length : Int)] ?_; (with_reducible refine (impl_DropClue.calls kj295 _ _ t829 (t821.length : Int) t874 true _ ?side1 ?side2 A424.out).mono ?_); (case side1 => exact rs HO_834000); (case side2 => exact rl HO_834000); rintro e w440 ⟨v875, rfl, ho0, hb⟩; refine ⟨_, rfl, ?_⟩; have HO876 := Aside0.mk (Kd.R_lower (Kd.R_newB (Kd.R_new' (Kd.R_new' (Kd.R_new' (Kd.R_new' ho0 (Kd.R_lt (ro HO_828000))) (Kd.R_lt (ro HO_834000))) (Kd.R_lt (ro HO_844000))) (Kd.R_lt (ro HO_849000))) (bk BK9)) (below_size (bw HB))); replace HO_828000 := Aside0.mk (Kd.R_elder' (ro HO_828000) (Kd.R_base ho0) hb); replace HO_834000 := Aside0.mk (Kd.R_elder' (ro HO_834000) (Kd.R_base ho0) hb); replace HO_844000 := Aside0.mk (Kd.R_elder' (ro HO_844000) (Kd.R_base ho0) hb); replace HO_849000 := Aside0.mk (Kd.R_elder' (ro HO_849000) (Kd.R_base ho0) hb); refine mv5 hb BK8 BK9 BK10 BK12 BK13 ?_; clear BK8 BK9 BK10 BK12 BK13; intro BK8 BK9 BK10 BK12 BK13; replace HB := kw HB hb; (try clear hb); (try clear ho0)) | ((with_reducible refine gate_dst (N := 58) rfl ?_); (try (refine gate_guard (by rfl) ?_; dsimp only)); refine boxK HB (N := 58) (cs := #[.slice none 0 0]) (t := 26) (h := ?_); clear HB; intro gb18 hg w441 BK18 GW18 GE18 HB hb; replace HO_828000 := ko HO_828000 hb; replace HO_834000 := ko HO_834000 hb; replace HO_844000 := ko HO_844000 hb; replace HO_849000 := ko HO_849000 hb; replace HO876 := ko HO876 hb; obtain ⟨NB8_18, NB18_8, NB9_18, NB18_9, NB10_18, NB18_10, NB12_18, NB18_12, NB13_18, NB18_13⟩ := nv5 hg BK8 BK9 BK10 BK12 BK13; refine mv5 hb BK8 BK9 BK10 BK12 BK13 ?_; clear BK8 BK9 BK10 BK12 BK13; intro BK8 BK9 BK10 BK12 BK13; clear hb hg; obtain ⟨Ao442, co442, eo442⟩ := Kd.R_slice HO876.out; subst eo442; have hnb443 := up5 NB18_8 NB18_9 NB18_10 NB18_12 NB18_13; obtain ⟨hcz448_0, hfz448_0⟩ := kc1 BK18))
    have n0_ : Aside0 (Kd.R k28 28 (w441.setCell ⟨gb18, 0, none⟩ (.slice Ao442 t874.length co442)) w.heap.size (fun k_ => some k_ ≠ (.slice Ao306 t829.length co306 : Value).ownBlock ∧ some k_ ≠ (.slice Ao321 t839.length co321 : Value).ownBlock ∧ some k_ ≠ (.slice Ao329 t844.length co329 : Value).ownBlock ∧ some k_ ≠ (.slice Ao442 t874.length co442 : Value).ownBlock ∧ k_ ≠ gb9) (.slice Ao300 t821.length co300) t821) := ⟨by (with_reducible repeat (first | apply Kd.R_alloc | apply Kd.R_drewN | apply Kd.R_drew)); exact Kd.R_mono (Kd.R_far (p := ⟨gb18, 0, none⟩) (Kd.R_types HO_828000.out BK18.out (by decide)) (fun _ hk => hk.2) (.slice Ao442 t874.length co442)) (fun _ hk => ⟨hk.1.1.1, ⟨hk.1.1.2.1, ⟨hk.1.1.2.2.1, ⟨hk.1.2, hk.1.1.2.2.2⟩⟩⟩⟩)⟩
    have n1_ : Aside0 (Kd.R k28 28 (w441.setCell ⟨gb18, 0, none⟩ (.slice Ao442 t874.length co442)) w.heap.size (fun k_ => some k_ ≠ (.slice Ao300 t821.length co300 : Value).ownBlock ∧ some k_ ≠ (.slice Ao321 t839.length co321 : Value).ownBlock ∧ some k_ ≠ (.slice Ao329 t844.length co329 : Value).ownBlock ∧ some k_ ≠ (.slice Ao442 t874.length co442 : Value).ownBlock ∧ k_ ≠ gb9) (.slice Ao306 t829.length co306) t829) := ⟨by (with_reducible repeat (first | apply Kd.R_alloc | apply Kd.R_drewN | apply Kd.R_drew)); exact Kd.R_mono (Kd.R_far (p := ⟨gb18, 0, none⟩) (Kd.R_types HO_834000.out BK18.out (by decide)) (fun _ hk => hk.2) (.slice Ao442 t874.length co442)) (fun _ hk => ⟨hk.1.1.1, ⟨hk.1.1.2.1, ⟨hk.1.1.2.2.1, ⟨hk.1.2, hk.1.1.2.2.2⟩⟩⟩⟩)⟩
    have n2_ : Aside0 (Kd.R k28 28 (w441.setCell ⟨gb18, 0, none⟩ (.slice Ao442 t874.length co442)) w.heap.size (fun k_ => some k_ ≠ (.slice Ao300 t821.length co300 : Value).ownBlock ∧ some k_ ≠ (.slice Ao306 t829.length co306 : Value).ownBlock ∧ some k_ ≠ (.slice Ao329 t844.length co329 : Value).ownBlock ∧ some k_ ≠ (.slice Ao442 t874.length co442 : Value).ownBlock ∧ k_ ≠ gb9) (.slice Ao321 t839.length co321) t839) := ⟨by (with_reducible repeat (first | apply Kd.R_alloc | apply Kd.R_drewN | apply Kd.R_drew)); exact Kd.R_mono (Kd.R_far (p := ⟨gb18, 0, none⟩) (Kd.R_types HO_844000.out BK18.out (by decide)) (fun _ hk => hk.2) (.slice Ao442 t874.length co442)) (fun _ hk => ⟨hk.1.1.1, ⟨hk.1.1.2.1, ⟨hk.1.1.2.2.1, ⟨hk.1.2, hk.1.1.2.2.2⟩⟩⟩⟩)⟩
    have n3_ : Aside0 (Kd.R k28 28 (w441.setCell ⟨gb18, 0, none⟩ (.slice Ao442 t874.length co442)) w.heap.size (fun k_ => some k_ ≠ (.slice Ao300 t821.length co300 : Value).ownBlock ∧ some k_ ≠ (.slice Ao306 t829.length co306 : Value).ownBlock ∧ some k_ ≠ (.slice Ao321 t839.length co321 : Value).ownBlock ∧ some k_ ≠ (.slice Ao442 t874.length co442 : Value).ownBlock ∧ k_ ≠ gb9) (.slice Ao329 t844.length co329) t844) := ⟨by (with_reducible repeat (first | apply Kd.R_alloc | apply Kd.R_drewN | apply Kd.R_drew)); exact Kd.R_mono (Kd.R_far (p := ⟨gb18, 0, none⟩) (Kd.R_types HO_849000.out BK18.out (by decide)) (fun _ hk => hk.2) (.slice Ao442 t874.length co442)) (fun _ hk => ⟨hk.1.1.1, ⟨hk.1.1.2.1, ⟨hk.1.1.2.2.1, ⟨hk.1.2, hk.1.1.2.2.2⟩⟩⟩⟩)⟩
    have n4_ : Aside0 (Kd.R k28 28 (w441.setCell ⟨gb18, 0, none⟩ (.slice Ao442 t874.length co442)) w.heap.size (fun k_ => some k_ ≠ (.slice Ao300 t821.length co300 : Value).ownBlock ∧ some k_ ≠ (.slice Ao306 t829.length co306 : Value).ownBlock ∧ some k_ ≠ (.slice Ao321 t839.length co321 : Value).ownBlock ∧ some k_ ≠ (.slice Ao329 t844.length co329 : Value).ownBlock ∧ k_ ≠ gb9) (.slice Ao442 t874.length co442) t874) := ⟨by (with_reducible repeat (first | apply Kd.R_alloc | apply Kd.R_drewN | apply Kd.R_drew)); exact Kd.R_mono (Kd.R_far (p := ⟨gb18, 0, none⟩) (Kd.R_types HO876.out BK18.out (by decide)) (fun _ hk => hk.2) (.slice Ao442 t874.length co442)) (fun _ hk => ⟨hk.1.1.1.1.1.2, ⟨hk.1.1.1.1.2, ⟨hk.1.1.1.2, ⟨hk.1.1.2, hk.1.2⟩⟩⟩⟩)⟩
    have n5_ : Aside0 ((w441.setCell ⟨gb18, 0, none⟩ (.slice Ao442 t874.length co442)).heap[gb8]? = some (.cells #[.slice Ao300 t821.length co300] 26 (0, 0))) := ⟨bf BK8 NB8_18⟩
    have n6_ : Aside0 ((w441.setCell ⟨gb18, 0, none⟩ (.slice Ao442 t874.length co442)).heap[gb9]? = some (.cells #[.int .i64 t824, .int .i64 t825, .int .i64 t826] 28 (0, 0))) := ⟨bf BK9 NB9_18⟩
    have n7_ : Aside0 ((w441.setCell ⟨gb18, 0, none⟩ (.slice Ao442 t874.length co442)).heap[gb10]? = some (.cells #[.slice Ao306 t829.length co306] 26 (0, 0))) := ⟨bf BK10 NB10_18⟩
    have n8_ : Aside0 ((w441.setCell ⟨gb18, 0, none⟩ (.slice Ao442 t874.length co442)).heap[gb12]? = some (.cells #[.slice Ao321 t839.length co321] 26 (0, 0))) := ⟨bf BK12 NB12_18⟩
    have n9_ : Aside0 ((w441.setCell ⟨gb18, 0, none⟩ (.slice Ao442 t874.length co442)).heap[gb13]? = some (.cells #[.slice Ao329 t844.length co329] 26 (0, 0))) := ⟨bf BK13 NB13_18⟩
    have n10_ : Aside0 ((w441.setCell ⟨gb18, 0, none⟩ (.slice Ao442 t874.length co442)).heap[gb18]? = some (.cells #[.slice Ao442 t874.length co442] 26 (0, 0))) := ⟨bt BK18⟩
    have n11_ : Aside0 (Below w.heap.size w (w441.setCell ⟨gb18, 0, none⟩ (.slice Ao442 t874.length co442))) := ⟨bw HB⟩
    (try clear HO_828000)
    (try clear HO_834000)
    (try clear HO_844000)
    (try clear HO_849000)
    (try clear HO876)
    (try clear BK8)
    (try clear BK9)
    (try clear BK10)
    (try clear BK12)
    (try clear BK13)
    (try clear BK18)
    (try clear HB)
    generalize (w441.setCell ⟨gb18, 0, none⟩ (.slice Ao442 t874.length co442)) = w449 at n0_ n1_ n2_ n3_ n4_ n5_ n6_ n7_ n8_ n9_ n10_ n11_ ⊢
    have HO_828000 := n0_
    have HO_834000 := n1_
    have HO_844000 := n2_
    have HO_849000 := n3_
    have HO876 := n4_
    have BK8 := n5_
    have BK9 := n6_
    have BK10 := n7_
    have BK12 := n8_
    have BK13 := n9_
    have BK18 := n10_
    have HB := n11_
    clear n0_ n1_ n2_ n3_ n4_ n5_ n6_ n7_ n8_ n9_ n10_ n11_
    replace HO_828000 := od HO_828000
    replace HO_834000 := od HO_834000
    replace HO_844000 := od HO_844000
    replace HO_849000 := od HO_849000
    replace HO876 := od HO876
    refine md6 BK8 BK9 BK10 BK12 BK13 BK18 ?_
    clear BK8 BK9 BK10 BK12 BK13 BK18
    intro BK8 BK9 BK10 BK12 BK13 BK18
    replace HB := Aside0.mk (below_drew1 HB.out)
    have p880 : 0 ≤ ((t821.length : Int) : Int) := of_decide_eq_true (by first | (with_reducible assumption) | assumption)
    have q880 : (t821.length : Int) < (t829.length : Int) := of_decide_eq_true (by first | (with_reducible assumption) | assumption)
    obtain ⟨ad880, e880, hx880_0, hx880_1, hx880_2⟩ := at_T28 (Kd.R_reads' HO_834000.out).2.2 (t821.length : Int) p880 q880
    cases e880
    (try simp only [Go.IntWalk.toNatUp] at hx880_0)
    (try simp only [Go.IntWalk.toNatUp] at hx880_1)
    (try simp only [Go.IntWalk.toNatUp] at hx880_2)
    replace p880 := eq_true p880
    replace q880 := eq_true q880
    refine startK 21 (S := fun w' => w'.cell? ⟨gb18, 0, none⟩ = some (.slice Ao442 t874.length co442) ∧ w'.cell? ⟨gb8, 0, none⟩ = some (.slice Ao300 t821.length co300) ∧ w'.cell? ⟨gb10, 0, none⟩ = some (.slice (some ad880) t829.length co306) ∧ w'.cell? ⟨gb9, 0, none⟩ = some (.int .i64 t824) ∧ w'.cell? ⟨gb9, 1, none⟩ = some (.int .i64 t825) ∧ w'.cell? ⟨gb9, 2, none⟩ = some (.int .i64 t826) ∧ w'.cell? (ad880.add (t821.length * 3)) = some (.int .i64 ((rd_T28 t829 (t821.length : Int)).f0)) ∧ w'.cell? ⟨(ad880.add (t821.length * 3)).block, (ad880.add (t821.length * 3)).off + 1, none⟩ = some (.int .i64 ((rd_T28 t829 (t821.length : Int)).f1)) ∧ w'.cell? ⟨(ad880.add (t821.length * 3)).block, (ad880.add (t821.length * 3)).off + 2, none⟩ = some (.int .i64 ((rd_T28 t829 (t821.length : Int)).f2))) (ds := []) laws_FnSnailsHidden.tab49 laws_FnSnailsHidden.bits49 (hS := ⟨bc BK18 0, bc BK8 0, bc BK10 0, bc BK9 0, bc BK9 1, bc BK9 2, hx880_0, hx880_1, hx880_2⟩) (h := fun hHeld HT_ HW_ => ?_)
    generalize w449.drew = w450 at HO_828000 HO_834000 HO_844000 HO_849000 HO876 BK8 BK9 BK10 BK12 BK13 BK18 HB hx880_0 hx880_1 hx880_2 hHeld ⊢
    refine pureK HT_ 0 (some 391) ?_
    refine pureK HT_ 1 (some 392) ?_
    refine pureK HT_ 2 (some 393) ?_
    refine pureK HT_ 3 (some 394) ?_
    refine pureK HT_ 5 (some 396) ?_
    refine takeK HT_ HW_ hHeld 4 (some 395) ?_
    refine takeK HT_ HW_ hHeld 6 (some 397) ?_
    refine oneK HT_ 7 (some 398) (fun K hK => ?_)
    refine goes_ Try.func7 (by kernel_rfl) rfl #[.slice Ao442 t874.length co442, .slice Ao300 t821.length co300] (by rfl) rfl rfl argR ?_
    with_reducible refine (laws_qClues.calls kj295 _ _ t874 _ _ t821 true _ ?side1 ?side2 ?side3 ?side4 A426.out).mono ?_
    (case side1 => exact rs HO876)
    (case side2 => exact rl HO876)
    (case side3 => exact rs HO_828000)
    (case side4 => exact rl HO_828000)
    rintro e w' ⟨rfl, ⟨nd, rfl⟩⟩
    refine ⟨_, rfl, ?_⟩
    refine hK.out _ _ ⟨bc BK18 0, bc BK8 0, bc BK10 0, bc BK9 0, bc BK9 1, bc BK9 2, hHeld.2.2.2.2.2.2.1, hHeld.2.2.2.2.2.2.2.1, hHeld.2.2.2.2.2.2.2.2⟩ (fun hHeld => ?_)
    clear hK K
    refine normK (N := some 398) (h := ?_)
    refine pureK HT_ 8 (some 399) ?_
    refine pureK HT_ 9 (some 400) ?_
    refine pureK HT_ 10 (some 401) ?_
    refine pureK HT_ 11 (some 402) ?_
    refine pureK HT_ 13 (some 404) ?_
    refine takeK HT_ HW_ hHeld 12 (some 403) ?_
    refine takeK HT_ HW_ hHeld 14 (some 405) ?_
    refine pureK HT_ 15 (some 406) ?_
    refine pureK HT_ 16 (some 407) ?_
    refine takeK HT_ HW_ hHeld 17 (some 408) ?_
    refine takeK HT_ HW_ hHeld 18 (some 409) ?_
    refine pureK HT_ 19 (some 410) ?_
    refine pureK HT_ 20 (some 411) ?_
    refine done_ (done_of HT_.out (by kernel_rfl)) ?_
    try go_wp2
    go_ret
    exact ⟨eqR, bw HB⟩
   have c430b0 : (!(((rd_T28 t829 (t821.length : Int)).f0) == t824) || (!(((rd_T28 t829 (t821.length : Int)).f1) == t825) || (!(((rd_T28 t829 (t821.length : Int)).f2) == t826)))) = false := by simpa using c430
   clear c430
   have H' := Aside0.mk H
   clear H
   have hnb451 := up4 NB10_8 NB10_9 NB10_12 NB10_13
   obtain ⟨hcz455_0, hfz455_0⟩ := kc1 BK10
   have hnb456 := up3 NB8_9 NB8_12 NB8_13
   obtain ⟨hcz459_0, hfz459_0⟩ := kc1 BK8
   try go_wp2_with (first | ((with_reducible refine gate_callee (f := 20) rfl ?_); refine goK (some 388) Try.func20 #[.agg #[.slice Ao306 t829.length co306], .int .i64 (t821.length : Int)] ?_; (with_reducible refine (impl_DropClue.calls kj295 _ _ t829 (t821.length : Int) t874 true _ ?side1 ?side2 A424.out).mono ?_); (case side1 => exact rs HO_834000); (case side2 => exact rl HO_834000); rintro e w460 ⟨v875, rfl, ho0, hb⟩; refine ⟨_, rfl, ?_⟩; have HO876 := Aside0.mk (Kd.R_lower (Kd.R_newB (Kd.R_new' (Kd.R_new' (Kd.R_new' (Kd.R_new' ho0 (Kd.R_lt (ro HO_828000))) (Kd.R_lt (ro HO_834000))) (Kd.R_lt (ro HO_844000))) (Kd.R_lt (ro HO_849000))) (bk BK9)) (below_size (bw HB))); replace HO_828000 := Aside0.mk (Kd.R_elder' (ro HO_828000) (Kd.R_base ho0) hb); replace HO_834000 := Aside0.mk (Kd.R_elder' (ro HO_834000) (Kd.R_base ho0) hb); replace HO_844000 := Aside0.mk (Kd.R_elder' (ro HO_844000) (Kd.R_base ho0) hb); replace HO_849000 := Aside0.mk (Kd.R_elder' (ro HO_849000) (Kd.R_base ho0) hb); refine mv5 hb BK8 BK9 BK10 BK12 BK13 ?_; clear BK8 BK9 BK10 BK12 BK13; intro BK8 BK9 BK10 BK12 BK13; replace HB := kw HB hb; (try clear hb); (try clear ho0)) | ((with_reducible refine gate_dst (N := 58) rfl ?_); (try (refine gate_guard (by rfl) ?_; dsimp only)); refine boxK HB (N := 58) (cs := #[.slice none 0 0]) (t := 26) (h := ?_); clear HB; intro gb18 hg w461 BK18 GW18 GE18 HB hb; replace HO_828000 := ko HO_828000 hb; replace HO_834000 := ko HO_834000 hb; replace HO_844000 := ko HO_844000 hb; replace HO_849000 := ko HO_849000 hb; replace HO876 := ko HO876 hb; obtain ⟨NB8_18, NB18_8, NB9_18, NB18_9, NB10_18, NB18_10, NB12_18, NB18_12, NB13_18, NB18_13⟩ := nv5 hg BK8 BK9 BK10 BK12 BK13; refine mv5 hb BK8 BK9 BK10 BK12 BK13 ?_; clear BK8 BK9 BK10 BK12 BK13; intro BK8 BK9 BK10 BK12 BK13; clear hb hg; obtain ⟨Ao462, co462, eo462⟩ := Kd.R_slice HO876.out; subst eo462; have hnb463 := up5 NB18_8 NB18_9 NB18_10 NB18_12 NB18_13; obtain ⟨hcz468_0, hfz468_0⟩ := kc1 BK18))
   have n0_ : Aside0 (Kd.R k28 28 (w461.setCell ⟨gb18, 0, none⟩ (.slice Ao462 t874.length co462)) w.heap.size (fun k_ => some k_ ≠ (.slice Ao306 t829.length co306 : Value).ownBlock ∧ some k_ ≠ (.slice Ao321 t839.length co321 : Value).ownBlock ∧ some k_ ≠ (.slice Ao329 t844.length co329 : Value).ownBlock ∧ some k_ ≠ (.slice Ao462 t874.length co462 : Value).ownBlock ∧ k_ ≠ gb9) (.slice Ao300 t821.length co300) t821) := ⟨by (with_reducible repeat (first | apply Kd.R_alloc | apply Kd.R_drewN | apply Kd.R_drew)); exact Kd.R_mono (Kd.R_far (p := ⟨gb18, 0, none⟩) (Kd.R_types HO_828000.out BK18.out (by decide)) (fun _ hk => hk.2) (.slice Ao462 t874.length co462)) (fun _ hk => ⟨hk.1.1.1, ⟨hk.1.1.2.1, ⟨hk.1.1.2.2.1, ⟨hk.1.2, hk.1.1.2.2.2⟩⟩⟩⟩)⟩
   have n1_ : Aside0 (Kd.R k28 28 (w461.setCell ⟨gb18, 0, none⟩ (.slice Ao462 t874.length co462)) w.heap.size (fun k_ => some k_ ≠ (.slice Ao300 t821.length co300 : Value).ownBlock ∧ some k_ ≠ (.slice Ao321 t839.length co321 : Value).ownBlock ∧ some k_ ≠ (.slice Ao329 t844.length co329 : Value).ownBlock ∧ some k_ ≠ (.slice Ao462 t874.length co462 : Value).ownBlock ∧ k_ ≠ gb9) (.slice Ao306 t829.length co306) t829) := ⟨by (with_reducible repeat (first | apply Kd.R_alloc | apply Kd.R_drewN | apply Kd.R_drew)); exact Kd.R_mono (Kd.R_far (p := ⟨gb18, 0, none⟩) (Kd.R_types HO_834000.out BK18.out (by decide)) (fun _ hk => hk.2) (.slice Ao462 t874.length co462)) (fun _ hk => ⟨hk.1.1.1, ⟨hk.1.1.2.1, ⟨hk.1.1.2.2.1, ⟨hk.1.2, hk.1.1.2.2.2⟩⟩⟩⟩)⟩
   have n2_ : Aside0 (Kd.R k28 28 (w461.setCell ⟨gb18, 0, none⟩ (.slice Ao462 t874.length co462)) w.heap.size (fun k_ => some k_ ≠ (.slice Ao300 t821.length co300 : Value).ownBlock ∧ some k_ ≠ (.slice Ao306 t829.length co306 : Value).ownBlock ∧ some k_ ≠ (.slice Ao329 t844.length co329 : Value).ownBlock ∧ some k_ ≠ (.slice Ao462 t874.length co462 : Value).ownBlock ∧ k_ ≠ gb9) (.slice Ao321 t839.length co321) t839) := ⟨by (with_reducible repeat (first | apply Kd.R_alloc | apply Kd.R_drewN | apply Kd.R_drew)); exact Kd.R_mono (Kd.R_far (p := ⟨gb18, 0, none⟩) (Kd.R_types HO_844000.out BK18.out (by decide)) (fun _ hk => hk.2) (.slice Ao462 t874.length co462)) (fun _ hk => ⟨hk.1.1.1, ⟨hk.1.1.2.1, ⟨hk.1.1.2.2.1, ⟨hk.1.2, hk.1.1.2.2.2⟩⟩⟩⟩)⟩
   have n3_ : Aside0 (Kd.R k28 28 (w461.setCell ⟨gb18, 0, none⟩ (.slice Ao462 t874.length co462)) w.heap.size (fun k_ => some k_ ≠ (.slice Ao300 t821.length co300 : Value).ownBlock ∧ some k_ ≠ (.slice Ao306 t829.length co306 : Value).ownBlock ∧ some k_ ≠ (.slice Ao321 t839.length co321 : Value).ownBlock ∧ some k_ ≠ (.slice Ao462 t874.length co462 : Value).ownBlock ∧ k_ ≠ gb9) (.slice Ao329 t844.length co329) t844) := ⟨by (with_reducible repeat (first | apply Kd.R_alloc | apply Kd.R_drewN | apply Kd.R_drew)); exact Kd.R_mono (Kd.R_far (p := ⟨gb18, 0, none⟩) (Kd.R_types HO_849000.out BK18.out (by decide)) (fun _ hk => hk.2) (.slice Ao462 t874.length co462)) (fun _ hk => ⟨hk.1.1.1, ⟨hk.1.1.2.1, ⟨hk.1.1.2.2.1, ⟨hk.1.2, hk.1.1.2.2.2⟩⟩⟩⟩)⟩
   have n4_ : Aside0 (Kd.R k28 28 (w461.setCell ⟨gb18, 0, none⟩ (.slice Ao462 t874.length co462)) w.heap.size (fun k_ => some k_ ≠ (.slice Ao300 t821.length co300 : Value).ownBlock ∧ some k_ ≠ (.slice Ao306 t829.length co306 : Value).ownBlock ∧ some k_ ≠ (.slice Ao321 t839.length co321 : Value).ownBlock ∧ some k_ ≠ (.slice Ao329 t844.length co329 : Value).ownBlock ∧ k_ ≠ gb9) (.slice Ao462 t874.length co462) t874) := ⟨by (with_reducible repeat (first | apply Kd.R_alloc | apply Kd.R_drewN | apply Kd.R_drew)); exact Kd.R_mono (Kd.R_far (p := ⟨gb18, 0, none⟩) (Kd.R_types HO876.out BK18.out (by decide)) (fun _ hk => hk.2) (.slice Ao462 t874.length co462)) (fun _ hk => ⟨hk.1.1.1.1.1.2, ⟨hk.1.1.1.1.2, ⟨hk.1.1.1.2, ⟨hk.1.1.2, hk.1.2⟩⟩⟩⟩)⟩
   have n5_ : Aside0 ((w461.setCell ⟨gb18, 0, none⟩ (.slice Ao462 t874.length co462)).heap[gb8]? = some (.cells #[.slice Ao300 t821.length co300] 26 (0, 0))) := ⟨bf BK8 NB8_18⟩
   have n6_ : Aside0 ((w461.setCell ⟨gb18, 0, none⟩ (.slice Ao462 t874.length co462)).heap[gb9]? = some (.cells #[.int .i64 t824, .int .i64 t825, .int .i64 t826] 28 (0, 0))) := ⟨bf BK9 NB9_18⟩
   have n7_ : Aside0 ((w461.setCell ⟨gb18, 0, none⟩ (.slice Ao462 t874.length co462)).heap[gb10]? = some (.cells #[.slice Ao306 t829.length co306] 26 (0, 0))) := ⟨bf BK10 NB10_18⟩
   have n8_ : Aside0 ((w461.setCell ⟨gb18, 0, none⟩ (.slice Ao462 t874.length co462)).heap[gb12]? = some (.cells #[.slice Ao321 t839.length co321] 26 (0, 0))) := ⟨bf BK12 NB12_18⟩
   have n9_ : Aside0 ((w461.setCell ⟨gb18, 0, none⟩ (.slice Ao462 t874.length co462)).heap[gb13]? = some (.cells #[.slice Ao329 t844.length co329] 26 (0, 0))) := ⟨bf BK13 NB13_18⟩
   have n10_ : Aside0 ((w461.setCell ⟨gb18, 0, none⟩ (.slice Ao462 t874.length co462)).heap[gb18]? = some (.cells #[.slice Ao462 t874.length co462] 26 (0, 0))) := ⟨bt BK18⟩
   have n11_ : Aside0 (Below w.heap.size w (w461.setCell ⟨gb18, 0, none⟩ (.slice Ao462 t874.length co462))) := ⟨bw HB⟩
   (try clear HO_828000)
   (try clear HO_834000)
   (try clear HO_844000)
   (try clear HO_849000)
   (try clear HO876)
   (try clear BK8)
   (try clear BK9)
   (try clear BK10)
   (try clear BK12)
   (try clear BK13)
   (try clear BK18)
   (try clear HB)
   generalize (w461.setCell ⟨gb18, 0, none⟩ (.slice Ao462 t874.length co462)) = w469 at n0_ n1_ n2_ n3_ n4_ n5_ n6_ n7_ n8_ n9_ n10_ n11_ ⊢
   have HO_828000 := n0_
   have HO_834000 := n1_
   have HO_844000 := n2_
   have HO_849000 := n3_
   have HO876 := n4_
   have BK8 := n5_
   have BK9 := n6_
   have BK10 := n7_
   have BK12 := n8_
   have BK13 := n9_
   have BK18 := n10_
   have HB := n11_
   clear n0_ n1_ n2_ n3_ n4_ n5_ n6_ n7_ n8_ n9_ n10_ n11_
   replace HO_828000 := od HO_828000
   replace HO_834000 := od HO_834000
   replace HO_844000 := od HO_844000
   replace HO_849000 := od HO_849000
   replace HO876 := od HO876
   refine md6 BK8 BK9 BK10 BK12 BK13 BK18 ?_
   clear BK8 BK9 BK10 BK12 BK13 BK18
   intro BK8 BK9 BK10 BK12 BK13 BK18
   replace HB := Aside0.mk (below_drew1 HB.out)
   have p880 : 0 ≤ ((t821.length : Int) : Int) := of_decide_eq_true (by first | (with_reducible assumption) | assumption)
   have q880 : (t821.length : Int) < (t829.length : Int) := of_decide_eq_true (by first | (with_reducible assumption) | assumption)
   obtain ⟨ad880, e880, hx880_0, hx880_1, hx880_2⟩ := at_T28 (Kd.R_reads' HO_834000.out).2.2 (t821.length : Int) p880 q880
   cases e880
   (try simp only [Go.IntWalk.toNatUp] at hx880_0)
   (try simp only [Go.IntWalk.toNatUp] at hx880_1)
   (try simp only [Go.IntWalk.toNatUp] at hx880_2)
   replace p880 := eq_true p880
   replace q880 := eq_true q880
   refine startK 21 (S := fun w' => w'.cell? ⟨gb18, 0, none⟩ = some (.slice Ao462 t874.length co462) ∧ w'.cell? ⟨gb8, 0, none⟩ = some (.slice Ao300 t821.length co300) ∧ w'.cell? ⟨gb10, 0, none⟩ = some (.slice (some ad880) t829.length co306) ∧ w'.cell? ⟨gb9, 0, none⟩ = some (.int .i64 t824) ∧ w'.cell? ⟨gb9, 1, none⟩ = some (.int .i64 t825) ∧ w'.cell? ⟨gb9, 2, none⟩ = some (.int .i64 t826) ∧ w'.cell? (ad880.add (t821.length * 3)) = some (.int .i64 ((rd_T28 t829 (t821.length : Int)).f0)) ∧ w'.cell? ⟨(ad880.add (t821.length * 3)).block, (ad880.add (t821.length * 3)).off + 1, none⟩ = some (.int .i64 ((rd_T28 t829 (t821.length : Int)).f1)) ∧ w'.cell? ⟨(ad880.add (t821.length * 3)).block, (ad880.add (t821.length * 3)).off + 2, none⟩ = some (.int .i64 ((rd_T28 t829 (t821.length : Int)).f2))) (ds := []) laws_FnSnailsHidden.tab49 laws_FnSnailsHidden.bits49 (hS := ⟨bc BK18 0, bc BK8 0, bc BK10 0, bc BK9 0, bc BK9 1, bc BK9 2, hx880_0, hx880_1, hx880_2⟩) (h := fun hHeld HT_ HW_ => ?_)
   generalize w469.drew = w470 at HO_828000 HO_834000 HO_844000 HO_849000 HO876 BK8 BK9 BK10 BK12 BK13 BK18 HB hx880_0 hx880_1 hx880_2 hHeld ⊢
   refine pureK HT_ 0 (some 391) ?_
   refine pureK HT_ 1 (some 392) ?_
   refine pureK HT_ 2 (some 393) ?_
   refine pureK HT_ 3 (some 394) ?_
   refine pureK HT_ 5 (some 396) ?_
   refine takeK HT_ HW_ hHeld 4 (some 395) ?_
   refine takeK HT_ HW_ hHeld 6 (some 397) ?_
   refine oneK HT_ 7 (some 398) (fun K hK => ?_)
   refine goes_ Try.func7 (by kernel_rfl) rfl #[.slice Ao462 t874.length co462, .slice Ao300 t821.length co300] (by rfl) rfl rfl argR ?_
   with_reducible refine (laws_qClues.calls kj295 _ _ t874 _ _ t821 true _ ?side1 ?side2 ?side3 ?side4 A426.out).mono ?_
   (case side1 => exact rs HO876)
   (case side2 => exact rl HO876)
   (case side3 => exact rs HO_828000)
   (case side4 => exact rl HO_828000)
   rintro e w' ⟨rfl, ⟨nd, rfl⟩⟩
   refine ⟨_, rfl, ?_⟩
   refine hK.out _ _ ⟨bc BK18 0, bc BK8 0, bc BK10 0, bc BK9 0, bc BK9 1, bc BK9 2, hHeld.2.2.2.2.2.2.1, hHeld.2.2.2.2.2.2.2.1, hHeld.2.2.2.2.2.2.2.2⟩ (fun hHeld => ?_)
   clear hK K
   refine normK (N := some 398) (h := ?_)
   refine pureK HT_ 8 (some 399) ?_
   refine pureK HT_ 9 (some 400) ?_
   refine pureK HT_ 10 (some 401) ?_
   refine pureK HT_ 11 (some 402) ?_
   refine pureK HT_ 13 (some 404) ?_
   refine takeK HT_ HW_ hHeld 12 (some 403) ?_
   refine takeK HT_ HW_ hHeld 14 (some 405) ?_
   refine pureK HT_ 15 (some 406) ?_
   refine pureK HT_ 16 (some 407) ?_
   refine takeK HT_ HW_ hHeld 17 (some 408) ?_
   refine takeK HT_ HW_ hHeld 18 (some 409) ?_
   refine pureK HT_ 19 (some 410) ?_
   refine pureK HT_ 20 (some 411) ?_
   refine done_ (done_of HT_.out (by kernel_rfl)) ?_
   try go_wp2
   go_meet
   case rel => exact ⟨_, H', ⟨by have := HJ7.out; have := HJ31.out; have := HJ168.out; have := HJ207.out; have := HJ295.out; first | omega | exact Nat.le_refl _⟩, ⟨by (with_reducible repeat (first | apply Kd.R_alloc | apply Kd.R_drewN | apply Kd.R_drew)); exact Kd.R_mono HO_844000.out (fun _ hk => hk.2.2.1)⟩, ⟨by (with_reducible repeat (first | apply Kd.R_alloc | apply Kd.R_drewN | apply Kd.R_drew)); exact Kd.R_mono HO_849000.out (fun _ hk => hk.2.2.1)⟩, ⟨bk BK12⟩, ⟨bk BK13⟩, ⟨bw HB⟩⟩
  case rest =>
   clear HC422
   obtain ⟨kq, HA, HJ421, HO_844000, HO_849000, BK12, BK13, HB⟩ := hcut
   exact laws_FnSnailsHidden.r6 k A0 c0 l0 A1 c1 l1 r w t762 t763 t768 t773 nd gb1 gb2 gb3 u62 u63 u64 u65 u66 u67 u68 u69 u70 u71 u72 u73 u74 u75 u76 u77 u78 u79 u80 u81 u82 u83 u84 u85 u86 u87 u88 u89 u90 u91 u92 u93 u94 kj7 HJ7 u12 u13 u14 u15 u16 u17 u18 u19 u20 u21 u23 u24 u25 u95 u96 u97 u98 u99 u100 u101 u102 u103 u104 u105 u106 u107 u108 u109 u110 u111 u112 u113 u114 u115 u116 u117 u118 u119 u120 u121 u122 u123 u124 u125 u126 u127 u128 u129 u130 u131 u132 u133 u134 u135 u136 u137 u138 u139 u140 u141 u142 u143 u144 u145 u146 u147 u148 u149 u150 u151 u152 u153 u154 u155 u156 u157 u158 u159 u160 u161 u162 u163 u164 u165 u166 u167 u168 u169 u170 u171 u172 u173 u174 u175 u176 u177 u178 u179 u180 u181 u182 u183 u184 u185 u186 u187 u188 u189 u190 u191 u192 u193 u194 u195 u196 u197 kj31 HJ31 t798 t803 t805 t806 gb5 gb6 gb7 u198 u199 u200 u201 u202 u203 u204 u205 u206 u207 u208 u209 u210 u211 u212 u213 u214 u215 u216 u217 u218 u219 u220 u221 u222 u223 u224 u225 u226 u227 u228 u229 u230 u231 u232 kj168 HJ168 u33 u34 u35 u36 u37 u38 u233 u234 u235 u236 u237 u238 u239 u240 u241 u242 u243 u244 u245 u246 u247 u248 u249 u250 u251 u252 u253 u254 u255 u256 u257 u258 u259 u260 u261 u262 u263 u264 u265 u266 u267 u268 u269 u270 u271 u272 u273 u274 u275 u276 u277 u278 u279 kj207 HJ207 t832 t837 t839 t842 t844 t847 t852 t861 t862 t863 t864 gb8 gb9 gb10 gb11 gb12 Ao321 co321 gb13 NB12_13 Ao329 co329 gb14 gb15 gb16 gb17 u280 u281 u282 u283 u284 u285 u286 u287 u288 u289 u290 u291 u292 u293 u294 u295 u296 u297 u298 u299 u300 u301 u302 u303 u304 u305 u306 u307 u308 u309 u310 u311 u312 u313 u314 u315 u316 u317 u318 u319 u320 u321 u322 u323 u324 u325 u326 u327 u328 u329 u330 u331 u332 u333 u334 u335 u336 u337 u338 u339 u340 u341 u342 u343 u344 u345 u346 u347 u348 u349 u350 u351 u352 u353 u354 u355 u356 u357 u358 u359 u360 u361 u362 u363 u364 u365 u366 u367 u368 u369 u370 u371 u372 u373 u374 u375 u376 u377 u378 u379 u380 kj295 HJ295 _ rfl _ (by assumption) wc u4 u58 u59 u381 u382 u383 u384 u385 u386 u387 u388 u389 u390 u391 u392 u393 u394 u395 u396 u397 u398 u399 u400 u401 u402 u403 u404 u405 u406 u407 u408 u409 u410 u411 kq HA HJ421 HO_844000 HO_849000 BK12 BK13 HB

end Go.Proofs.Ytlpjooijkeadbaa.PH
