-- Written by a program of our own (wip/tools/xprint.py) for this claim; Lean checks it.
import Derived.Test.YtlpjooijkeadbaaPHx0
import Derived.Test.YtlpjooijkeadbaaPHx3
import Derived.Test.YtlpjooijkeadbaaPHx4
import Derived.Test.YtlpjooijkeadbaaPHx5
import Derived.Test.YtlpjooijkeadbaaPHx7
import Derived.Test.YtlpjooijkeadbaaPHx8
import Derived.Test.YtlpjooijkeadbaaPHx9
import Derived.Test.YtlpjooijkeadbaaPHx12
import Derived.Test.YtlpjooijkeadbaaPHx14
import Derived.Test.YtlpjooijkeadbaaPHx15
import Derived.Test.YtlpjooijkeadbaaPHx16
import Derived.Test.YtlpjooijkeadbaaKC
import Derived.Test.YtlpjooijkeadbaaPHx17p4
namespace Go.Proofs.Ytlpjooijkeadbaa.PH
open Go.RowKit Go.Proofs.YtlpjooijkeadbaaK Go.Proofs.YtlpjooijkeadbaaW.PrintWords Go.Proofs.YtlpjooijkeadbaaW.PrintLast Go.Proofs.YtlpjooijkeadbaaW.PrintMore
attribute [local go_sem] max2_int min2_int max_two min_two max_three min_three max_four min_four   -- for this text's walks alone
set_option linter.unusedVariables false
set_option linter.unusedSimpArgs false

attribute [local go_sem high] eqA28
set_option maxHeartbeats 8000000 in
set_option maxRecDepth 100000 in
theorem laws_FnSnailsHidden.r3 (k : Nat) (A0 : Option Addr) (c0 : Nat) (l0 : List Int) (A1 : Option Addr) (c1 : Nat) (l1 : List Int) (r : Bool) (w : World) (HR1 : Aside0 ((Kd.int IntKind.u8).C w A1 l1.length l1)) (HC1 : Aside0 (l1.length ≤ c1)) (t762 t763 : Int) (t768 t773 : Bool) (nd gb1 gb2 gb3 : Nat) (u62 u63 u64 u65 u66 u67 u68 u69 u70 u71 u72 u73 u74 u75 u76 u77 u78 u79 u80 u81 u82 u83 u84 u85 u86 u87 u88 u89 u90 u91 u92 u93 u94 : Value) (kj7 : Nat) (HJ7 : Aside0 (kj7 + 1 ≤ k)) (u4 u12 u13 u14 u15 u16 u17 u18 u19 u20 u21 u23 u24 u25 u95 u96 u97 u98 u99 u100 u101 u102 u103 u104 u105 u106 u107 u108 u109 u110 u111 u112 u113 u114 u115 u116 u117 u118 u119 u120 u121 u122 u123 u124 u125 u126 u127 u128 u129 u130 u131 u132 u133 u134 u135 u136 u137 u138 u139 u140 u141 u142 u143 u144 u145 u146 u147 u148 u149 u150 u151 u152 u153 u154 u155 u156 u157 u158 u159 u160 u161 u162 u163 u164 u165 u166 u167 u168 u169 u170 u171 u172 u173 u174 u175 u176 u177 u178 u179 u180 u181 u182 u183 u184 u185 u186 u187 u188 u189 u190 u191 u192 u193 u194 u195 u196 u197 : Value) (kj31 : Nat) (HJ31 : Aside0 (kj31 + 1 ≤ kj7)) (t791 : List S28) (t795 : List S28) (t798 t803 t805 t806 : Bool) (Qz2 : Exit → Act → World → Prop) (hQz2 : Qz2 = bodyPost Try.prog Try.f4 fun e w' => e = Ending.returned (Value.bool r) ∧ Below w.heap.size w w') (gb5 : Nat) (Ao172 : Option Addr) (co172 gb6 : Nat) (NB5_6 : Aside0 (gb5 ≠ gb6)) (Ao176 : Option Addr) (co176 gb7 : Nat) (Kz6 : Act → World → Prop) (az7 : ∀ (a : Act) (w : World), Code.wp Try.prog (cAt [1, 1, 1, 1, 1, 1, 1, 1, 1, 1, 1, 1] Try.f4) Qz2 a w → Kz6 a w) (Kz8 : Act → World → Prop) (az9 : ∀ (a : Act) (w : World), Code.wp Try.prog (cAt [1, 1, 1, 1, 1, 1, 1, 1, 1, 1, 1, 0, 1] Try.f4) (Exit.then Kz6 Qz2) a w → Kz8 a w) (wc : World) (u198 u199 u200 u201 u202 u203 u204 u205 u206 u207 u208 u209 u210 u211 u212 u213 u214 u215 u216 u217 u218 u219 u220 u221 u222 u223 u224 u225 u226 u227 u228 u229 u230 u231 u232 : Value) (kq : Nat) (x233_168 : Bool) (HA : Aside0 (j4 kq l1 t798 x233_168 t791 t795 = some r)) (HJ168 : Aside0 (kq ≤ kj31)) (HO_795000 : Aside0 (k28.R 28 wc w.heap.size (fun k_ => some k_ ≠ (Value.slice Ao176 t795.length co176).ownBlock) (Value.slice Ao172 t791.length co172) t791)) (HO_800000 : Aside0 (k28.R 28 wc w.heap.size (fun k_ => some k_ ≠ (Value.slice Ao172 t791.length co172).ownBlock) (Value.slice Ao176 t795.length co176) t795)) (BK5 : Aside0 (wc.heap[gb5]? = some (Obj.cells #[Value.slice Ao172 t791.length co172] 26))) (BK6 : Aside0 (wc.heap[gb6]? = some (Obj.cells #[Value.slice Ao176 t795.length co176] 26))) (HB : Aside0 (Below w.heap.size w wc)) :
    Kz8 { tmps := #[Value.slice A0 l0.length c0, Value.slice A1 l1.length c1, undef, undef, u4, Value.pointer (some { block := gb1, off := 0 }), Value.int IntKind.i64 t762, Value.int IntKind.i64 t763, Value.pointer (some { block := gb2, off := 0 }), Value.bool t768, Value.pointer (some { block := gb3, off := 0 }), Value.bool t773, u12, u13, u14, u15, u16, u17, u18, u19, u20, u21, undef, u23, u24, u25, Value.pointer (some { block := gb5, off := 0 }), Value.pointer (some { block := gb6, off := 0 }), Value.bool t798, Value.pointer (some { block := gb7, off := 0 }), Value.bool t803, Value.bool t805, Value.bool t806, undef, undef, undef, undef, undef, undef, undef, undef, undef, undef, undef, undef, undef, undef, undef, undef, undef, undef, undef, undef, undef, undef, undef, undef, undef, undef, undef, undef, undef, u62, u63, u64, u65, u66, u67, u68, u69, u70, u71, u72, u73, u74, u75, u76, u77, u78, u79, u80, u81, u82, u83, u84, u85, u86, u87, u88, u89, u90, u91, u92, u93, u94, u95, u96, u97, u98, u99, u100, u101, u102, u103, u104, u105, u106, u107, u108, u109, u110, u111, u112, u113, u114, u115, u116, u117, u118, u119, u120, u121, u122, u123, u124, u125, u126, u127, u128, u129, u130, u131, u132, u133, u134, u135, u136, u137, u138, u139, u140, u141, u142, u143, u144, u145, u146, u147, u148, u149, u150, u151, u152, u153, u154, u155, u156, u157, u158, u159, u160, u161, u162, u163, u164, u165, u166, u167, u168, u169, u170, u171, u172, u173, u174, u175, u176, u177, u178, u179, u180, u181, u182, u183, u184, u185, u186, u187, u188, u189, u190, u191, u192, u193, u194, u195, u196, u197, u198, u199, u200, u201, u202, u203, u204, u205, u206, u207, u208, u209, u210, u211, u212, u213, u214, u215, u216, u217, u218, u219, u220, u221, u222, u223, u224, u225, u226, u227, u228, u229, u230, u231, u232, Value.bool x233_168, undef, undef, undef, undef, undef, undef, undef, undef, undef, undef, undef, undef, undef, undef, undef, undef, undef, undef, undef, undef, undef, undef, undef, undef, undef, undef, undef, undef, undef, undef, undef, undef, undef, undef, undef, undef, undef, undef, undef, undef, undef, undef, undef, undef, undef, undef, undef, undef, undef, undef, undef, undef, undef, undef, undef, undef, undef, undef, undef, undef, undef, undef, undef, undef, undef, undef, undef, undef, undef, undef, undef, undef, undef, undef, undef, undef, undef, undef, undef, undef, undef, undef, undef, undef, undef, undef, undef, undef, undef, undef, undef, undef, undef, undef, undef, undef, undef, undef, undef, undef, undef, undef, undef, undef, undef, undef, undef, undef, undef, undef, undef, undef, undef, undef, undef, undef, undef, undef, undef, undef, undef, undef, undef, undef, undef, undef, undef, undef, undef, undef, undef, undef, undef, undef, undef, undef, undef, undef, undef, undef, undef, undef, undef, undef, undef, undef, undef, undef, undef, undef, undef, undef, undef, undef, undef, undef, undef, undef, undef, undef, undef, undef, undef, undef, undef, undef, undef, undef, undef, undef, undef, undef, undef, undef, undef, undef, undef, undef, undef, undef, undef, undef, undef, undef, undef, undef, undef, undef, undef, undef, undef, undef, undef, undef, undef, undef, undef, undef, undef, undef, undef, undef, undef, undef, undef], defers := [] } wc  := by
 subst hQz2
 (try dsimp only)
 conv at az7 => ext a w; lhs; arg 2; whnf
 conv at az9 => ext a w; lhs; arg 2; whnf
 cases kq with
 | zero => exact absurd HA.out (by simp [laws_FnSnailsHidden.j4])
 | succ kj168 =>
  have H := HA.out
  clear HA
  simp only [laws_FnSnailsHidden.j4] at H
  replace H := iteB H; rcases H with ⟨rfl, H⟩ | ⟨rfl, H⟩
  ·
   obtain rfl := Option.some.inj H
   go_wp2
   go_ret
   exact ⟨eqR, bw HB⟩
  have HC208 := Aside0.mk H
  clear H
  go_upto_if 234 with (fail)
  go_cut [233, 234] from 1 to 0 (fun _ _ wc => ∃ (kq : Nat), Aside0 (laws_FnSnailsHidden.j5 kq l1 = some r) ∧ Aside0 (kq ≤ kj168) ∧ Aside0 (Below w.heap.size w wc))
  case first =>
   have H := HC208.out
   clear HC208
   replace H := iteB H; rcases H with ⟨rfl, H⟩ | ⟨rfl, H⟩
   rotate_left
   ·
    have H' := Aside0.mk H
    clear H
    go_wp2
    go_meet
    case rel => exact ⟨_, H', ⟨by have := HJ7.out; have := HJ31.out; have := HJ168.out; first | omega | exact Nat.le_refl _⟩, ⟨bw HB⟩⟩
   replace H := bindS H; obtain ⟨⟨t808, t811⟩, A210, H⟩ := H
   replace H := bindS H; obtain ⟨⟨t812, t815⟩, A211, H⟩ := H
   replace H := bindS H; obtain ⟨⟨t816, t819⟩, A212, H⟩ := H
   replace H := iteB H; rcases H with ⟨rfl, H⟩ | ⟨rfl, H⟩
   rotate_left
   ·
    obtain rfl := Option.some.inj H
    have hnb279 := up1 NB5_6
    obtain ⟨hcz280_0, hfz280_0⟩ := kc1 BK5
    go_wp2_with (first | ((with_reducible refine gate_callee (f := 15) rfl ?_); refine goK (some 237) Try.func15 #[.agg #[.slice Ao172 t791.length co172]] ?_; (with_reducible refine (impl_Solutions.calls kj168 _ _ t791 t808 false _ ?side1 ?side2 A210.out).mono ?_); (case side1 => exact rs HO_795000); (case side2 => exact rl HO_795000); rintro e w281 ⟨v809, rfl, ho0, hb⟩; refine ⟨_, rfl, ?_⟩; replace HO_795000 := ko HO_795000 hb; replace HO_800000 := ko HO_800000 hb; have HO810 := Aside0.mk (Kd.R_lower ho0 (below_size (bw HB))); refine mv2 hb BK5 BK6 ?_; clear BK5 BK6; intro BK5 BK6; replace HB := kw HB hb; (try clear hb); (try clear ho0); obtain ⟨hcz282_0, hfz282_0⟩ := kc1 BK6) | ((with_reducible refine gate_callee (f := 15) rfl ?_); refine goK (some 242) Try.func15 #[.agg #[.slice Ao176 t795.length co176]] ?_; (with_reducible refine (impl_Solutions.calls kj168 _ _ t795 t812 t815 _ ?side1 ?side2 A211.out).mono ?_); (case side1 => exact rs HO_800000); (case side2 => exact rl HO_800000); rintro e w283 ⟨v813, rfl, ho0, hb⟩; refine ⟨_, rfl, ?_⟩; replace HO_795000 := ko HO_795000 hb; replace HO_800000 := ko HO_800000 hb; have HO814 := Aside0.mk (Kd.R_lower (Kd.R_new' ho0 (Kd.R_lt (ro HO810))) (below_size (bw HB))); replace HO810 := Aside0.mk (Kd.R_elder' (ro HO810) (Kd.R_base ho0) hb); refine mv2 hb BK5 BK6 ?_; clear BK5 BK6; intro BK5 BK6; replace HB := kw HB hb; (try clear hb); (try clear ho0); obtain ⟨hcz284_0, hfz284_0⟩ := kc1 BK6) | ((with_reducible refine gate_callee (f := 16) rfl ?_); refine goK (some 247) Try.func16 #[.agg #[.slice Ao176 t795.length co176]] ?_; (with_reducible refine (impl_NeedlessClues.calls kj168 _ _ t795 t816 t819 _ ?side1 ?side2 A212.out).mono ?_); (case side1 => exact rs HO_800000); (case side2 => exact rl HO_800000); rintro e w285 ⟨v817, rfl, ho0, hb⟩; refine ⟨_, rfl, ?_⟩; replace HO_795000 := ko HO_795000 hb; replace HO_800000 := ko HO_800000 hb; replace HO810 := ko HO810 hb; replace HO814 := ko HO814 hb; have HO818 := Aside0.mk (Kd.R_lower ho0 (below_size (bw HB))); refine mv2 hb BK5 BK6 ?_; clear BK5 BK6; intro BK5 BK6; replace HB := kw HB hb; (try clear hb); (try clear ho0)))
    go_ret
    exact ⟨eqR, bw HB⟩
   replace H := iteB H; rcases H with ⟨rfl, H⟩ | ⟨rfl, H⟩
   rotate_left
   ·
    obtain rfl := Option.some.inj H
    have hnb272 := up1 NB5_6
    obtain ⟨hcz273_0, hfz273_0⟩ := kc1 BK5
    go_wp2_with (first | ((with_reducible refine gate_callee (f := 15) rfl ?_); refine goK (some 237) Try.func15 #[.agg #[.slice Ao172 t791.length co172]] ?_; (with_reducible refine (impl_Solutions.calls kj168 _ _ t791 t808 true _ ?side1 ?side2 A210.out).mono ?_); (case side1 => exact rs HO_795000); (case side2 => exact rl HO_795000); rintro e w274 ⟨v809, rfl, ho0, hb⟩; refine ⟨_, rfl, ?_⟩; replace HO_795000 := ko HO_795000 hb; replace HO_800000 := ko HO_800000 hb; have HO810 := Aside0.mk (Kd.R_lower ho0 (below_size (bw HB))); refine mv2 hb BK5 BK6 ?_; clear BK5 BK6; intro BK5 BK6; replace HB := kw HB hb; (try clear hb); (try clear ho0); obtain ⟨hcz275_0, hfz275_0⟩ := kc1 BK6) | ((with_reducible refine gate_callee (f := 15) rfl ?_); refine goK (some 242) Try.func15 #[.agg #[.slice Ao176 t795.length co176]] ?_; (with_reducible refine (impl_Solutions.calls kj168 _ _ t795 t812 false _ ?side1 ?side2 A211.out).mono ?_); (case side1 => exact rs HO_800000); (case side2 => exact rl HO_800000); rintro e w276 ⟨v813, rfl, ho0, hb⟩; refine ⟨_, rfl, ?_⟩; replace HO_795000 := ko HO_795000 hb; replace HO_800000 := ko HO_800000 hb; have HO814 := Aside0.mk (Kd.R_lower (Kd.R_new' ho0 (Kd.R_lt (ro HO810))) (below_size (bw HB))); replace HO810 := Aside0.mk (Kd.R_elder' (ro HO810) (Kd.R_base ho0) hb); refine mv2 hb BK5 BK6 ?_; clear BK5 BK6; intro BK5 BK6; replace HB := kw HB hb; (try clear hb); (try clear ho0); obtain ⟨hcz277_0, hfz277_0⟩ := kc1 BK6) | ((with_reducible refine gate_callee (f := 16) rfl ?_); refine goK (some 247) Try.func16 #[.agg #[.slice Ao176 t795.length co176]] ?_; (with_reducible refine (impl_NeedlessClues.calls kj168 _ _ t795 t816 t819 _ ?side1 ?side2 A212.out).mono ?_); (case side1 => exact rs HO_800000); (case side2 => exact rl HO_800000); rintro e w278 ⟨v817, rfl, ho0, hb⟩; refine ⟨_, rfl, ?_⟩; replace HO_795000 := ko HO_795000 hb; replace HO_800000 := ko HO_800000 hb; replace HO810 := ko HO810 hb; replace HO814 := ko HO814 hb; have HO818 := Aside0.mk (Kd.R_lower ho0 (below_size (bw HB))); refine mv2 hb BK5 BK6 ?_; clear BK5 BK6; intro BK5 BK6; replace HB := kw HB hb; (try clear hb); (try clear ho0)))
    go_ret
    exact ⟨eqR, bw HB⟩
   replace H := bindS H; obtain ⟨t820, A215, H⟩ := H
   replace H := iteB H; rcases H with ⟨rfl, H⟩ | ⟨rfl, H⟩
   rotate_left
   ·
    obtain rfl := Option.some.inj H
    have hnb263 := up1 NB5_6
    obtain ⟨hcz264_0, hfz264_0⟩ := kc1 BK5
    go_wp2_with (first | ((with_reducible refine gate_callee (f := 15) rfl ?_); refine goK (some 237) Try.func15 #[.agg #[.slice Ao172 t791.length co172]] ?_; (with_reducible refine (impl_Solutions.calls kj168 _ _ t791 t808 true _ ?side1 ?side2 A210.out).mono ?_); (case side1 => exact rs HO_795000); (case side2 => exact rl HO_795000); rintro e w265 ⟨v809, rfl, ho0, hb⟩; refine ⟨_, rfl, ?_⟩; replace HO_795000 := ko HO_795000 hb; replace HO_800000 := ko HO_800000 hb; have HO810 := Aside0.mk (Kd.R_lower ho0 (below_size (bw HB))); refine mv2 hb BK5 BK6 ?_; clear BK5 BK6; intro BK5 BK6; replace HB := kw HB hb; (try clear hb); (try clear ho0); obtain ⟨hcz266_0, hfz266_0⟩ := kc1 BK6) | ((with_reducible refine gate_callee (f := 15) rfl ?_); refine goK (some 242) Try.func15 #[.agg #[.slice Ao176 t795.length co176]] ?_; (with_reducible refine (impl_Solutions.calls kj168 _ _ t795 t812 true _ ?side1 ?side2 A211.out).mono ?_); (case side1 => exact rs HO_800000); (case side2 => exact rl HO_800000); rintro e w267 ⟨v813, rfl, ho0, hb⟩; refine ⟨_, rfl, ?_⟩; replace HO_795000 := ko HO_795000 hb; replace HO_800000 := ko HO_800000 hb; have HO814 := Aside0.mk (Kd.R_lower (Kd.R_new' ho0 (Kd.R_lt (ro HO810))) (below_size (bw HB))); replace HO810 := Aside0.mk (Kd.R_elder' (ro HO810) (Kd.R_base ho0) hb); refine mv2 hb BK5 BK6 ?_; clear BK5 BK6; intro BK5 BK6; replace HB := kw HB hb; (try clear hb); (try clear ho0); obtain ⟨hcz268_0, hfz268_0⟩ := kc1 BK6) | ((with_reducible refine gate_callee (f := 16) rfl ?_); refine goK (some 247) Try.func16 #[.agg #[.slice Ao176 t795.length co176]] ?_; (with_reducible refine (impl_NeedlessClues.calls kj168 _ _ t795 t816 t819 _ ?side1 ?side2 A212.out).mono ?_); (case side1 => exact rs HO_800000); (case side2 => exact rl HO_800000); rintro e w269 ⟨v817, rfl, ho0, hb⟩; refine ⟨_, rfl, ?_⟩; replace HO_795000 := ko HO_795000 hb; replace HO_800000 := ko HO_800000 hb; replace HO810 := ko HO810 hb; replace HO814 := ko HO814 hb; have HO818 := Aside0.mk (Kd.R_lower ho0 (below_size (bw HB))); refine mv2 hb BK5 BK6 ?_; clear BK5 BK6; intro BK5 BK6; replace HB := kw HB hb; (try clear hb); (try clear ho0); obtain ⟨Ao270, co270, eo270⟩ := Kd.R_slice HO810.out; subst eo270; obtain ⟨Ao271, co271, eo271⟩ := Kd.R_slice HO814.out; subst eo271) | (go_at_call 17; (with_reducible refine (laws_qSnails.calls kj168 _ _ t808 _ _ t812 false _ ?side1 ?side2 ?side3 ?side4 A215.out).mono ?_); (case side1 => exact rs HO810); (case side2 => exact rl HO810); (case side3 => exact rs HO814); (case side4 => exact rl HO814); rintro e w' ⟨rfl, ⟨nd, rfl⟩⟩))
    go_ret
    exact ⟨eqR, bw HB⟩
   replace H := iteB H; rcases H with ⟨rfl, H⟩ | ⟨rfl, H⟩
   rotate_left
   ·
    obtain rfl := Option.some.inj H
    have hnb254 := up1 NB5_6
    obtain ⟨hcz255_0, hfz255_0⟩ := kc1 BK5
    go_wp2_with (first | ((with_reducible refine gate_callee (f := 15) rfl ?_); refine goK (some 237) Try.func15 #[.agg #[.slice Ao172 t791.length co172]] ?_; (with_reducible refine (impl_Solutions.calls kj168 _ _ t791 t808 true _ ?side1 ?side2 A210.out).mono ?_); (case side1 => exact rs HO_795000); (case side2 => exact rl HO_795000); rintro e w256 ⟨v809, rfl, ho0, hb⟩; refine ⟨_, rfl, ?_⟩; replace HO_795000 := ko HO_795000 hb; replace HO_800000 := ko HO_800000 hb; have HO810 := Aside0.mk (Kd.R_lower ho0 (below_size (bw HB))); refine mv2 hb BK5 BK6 ?_; clear BK5 BK6; intro BK5 BK6; replace HB := kw HB hb; (try clear hb); (try clear ho0); obtain ⟨hcz257_0, hfz257_0⟩ := kc1 BK6) | ((with_reducible refine gate_callee (f := 15) rfl ?_); refine goK (some 242) Try.func15 #[.agg #[.slice Ao176 t795.length co176]] ?_; (with_reducible refine (impl_Solutions.calls kj168 _ _ t795 t812 true _ ?side1 ?side2 A211.out).mono ?_); (case side1 => exact rs HO_800000); (case side2 => exact rl HO_800000); rintro e w258 ⟨v813, rfl, ho0, hb⟩; refine ⟨_, rfl, ?_⟩; replace HO_795000 := ko HO_795000 hb; replace HO_800000 := ko HO_800000 hb; have HO814 := Aside0.mk (Kd.R_lower (Kd.R_new' ho0 (Kd.R_lt (ro HO810))) (below_size (bw HB))); replace HO810 := Aside0.mk (Kd.R_elder' (ro HO810) (Kd.R_base ho0) hb); refine mv2 hb BK5 BK6 ?_; clear BK5 BK6; intro BK5 BK6; replace HB := kw HB hb; (try clear hb); (try clear ho0); obtain ⟨hcz259_0, hfz259_0⟩ := kc1 BK6) | ((with_reducible refine gate_callee (f := 16) rfl ?_); refine goK (some 247) Try.func16 #[.agg #[.slice Ao176 t795.length co176]] ?_; (with_reducible refine (impl_NeedlessClues.calls kj168 _ _ t795 t816 false _ ?side1 ?side2 A212.out).mono ?_); (case side1 => exact rs HO_800000); (case side2 => exact rl HO_800000); rintro e w260 ⟨v817, rfl, ho0, hb⟩; refine ⟨_, rfl, ?_⟩; replace HO_795000 := ko HO_795000 hb; replace HO_800000 := ko HO_800000 hb; replace HO810 := ko HO810 hb; replace HO814 := ko HO814 hb; have HO818 := Aside0.mk (Kd.R_lower ho0 (below_size (bw HB))); refine mv2 hb BK5 BK6 ?_; clear BK5 BK6; intro BK5 BK6; replace HB := kw HB hb; (try clear hb); (try clear ho0); obtain ⟨Ao261, co261, eo261⟩ := Kd.R_slice HO810.out; subst eo261; obtain ⟨Ao262, co262, eo262⟩ := Kd.R_slice HO814.out; subst eo262) | (go_at_call 17; (with_reducible refine (laws_qSnails.calls kj168 _ _ t808 _ _ t812 true _ ?side1 ?side2 ?side3 ?side4 A215.out).mono ?_); (case side1 => exact rs HO810); (case side2 => exact rl HO810); (case side3 => exact rs HO814); (case side4 => exact rl HO814); rintro e w' ⟨rfl, ⟨nd, rfl⟩⟩))
    go_ret
    exact ⟨eqR, bw HB⟩
   replace H := iteC H; rcases H with ⟨c218, H⟩ | ⟨c218, H⟩
   rotate_left
   ·
    have c218b0 : ((t816.length : Int) == 0) = false := beq_eq_false_iff_ne.mpr c218
    have c218b1 : ((t816.length : Int) != 0) = true := bne_iff_ne.mpr c218
    have c218b2 : ¬ (t816 = []) := fun h_ => c218 (by rw [h_]; rfl)
    (first | rw [c218b0] | (simp only [i64_w, i32_w]; rw [c218b0]) | skip)
    obtain rfl := Option.some.inj H
    have hnb244 := up1 NB5_6
    obtain ⟨hcz245_0, hfz245_0⟩ := kc1 BK5
    go_wp2_with (first | ((with_reducible refine gate_callee (f := 15) rfl ?_); refine goK (some 237) Try.func15 #[.agg #[.slice Ao172 t791.length co172]] ?_; (with_reducible refine (impl_Solutions.calls kj168 _ _ t791 t808 true _ ?side1 ?side2 A210.out).mono ?_); (case side1 => exact rs HO_795000); (case side2 => exact rl HO_795000); rintro e w246 ⟨v809, rfl, ho0, hb⟩; refine ⟨_, rfl, ?_⟩; replace HO_795000 := ko HO_795000 hb; replace HO_800000 := ko HO_800000 hb; have HO810 := Aside0.mk (Kd.R_lower ho0 (below_size (bw HB))); refine mv2 hb BK5 BK6 ?_; clear BK5 BK6; intro BK5 BK6; replace HB := kw HB hb; (try clear hb); (try clear ho0); obtain ⟨hcz247_0, hfz247_0⟩ := kc1 BK6) | ((with_reducible refine gate_callee (f := 15) rfl ?_); refine goK (some 242) Try.func15 #[.agg #[.slice Ao176 t795.length co176]] ?_; (with_reducible refine (impl_Solutions.calls kj168 _ _ t795 t812 true _ ?side1 ?side2 A211.out).mono ?_); (case side1 => exact rs HO_800000); (case side2 => exact rl HO_800000); rintro e w248 ⟨v813, rfl, ho0, hb⟩; refine ⟨_, rfl, ?_⟩; replace HO_795000 := ko HO_795000 hb; replace HO_800000 := ko HO_800000 hb; have HO814 := Aside0.mk (Kd.R_lower (Kd.R_new' ho0 (Kd.R_lt (ro HO810))) (below_size (bw HB))); replace HO810 := Aside0.mk (Kd.R_elder' (ro HO810) (Kd.R_base ho0) hb); refine mv2 hb BK5 BK6 ?_; clear BK5 BK6; intro BK5 BK6; replace HB := kw HB hb; (try clear hb); (try clear ho0); obtain ⟨hcz249_0, hfz249_0⟩ := kc1 BK6) | ((with_reducible refine gate_callee (f := 16) rfl ?_); refine goK (some 247) Try.func16 #[.agg #[.slice Ao176 t795.length co176]] ?_; (with_reducible refine (impl_NeedlessClues.calls kj168 _ _ t795 t816 true _ ?side1 ?side2 A212.out).mono ?_); (case side1 => exact rs HO_800000); (case side2 => exact rl HO_800000); rintro e w250 ⟨v817, rfl, ho0, hb⟩; refine ⟨_, rfl, ?_⟩; replace HO_795000 := ko HO_795000 hb; replace HO_800000 := ko HO_800000 hb; replace HO810 := ko HO810 hb; replace HO814 := ko HO814 hb; have HO818 := Aside0.mk (Kd.R_lower ho0 (below_size (bw HB))); refine mv2 hb BK5 BK6 ?_; clear BK5 BK6; intro BK5 BK6; replace HB := kw HB hb; (try clear hb); (try clear ho0); obtain ⟨Ao251, co251, eo251⟩ := Kd.R_slice HO810.out; subst eo251; obtain ⟨Ao252, co252, eo252⟩ := Kd.R_slice HO814.out; subst eo252) | (go_at_call 17; (with_reducible refine (laws_qSnails.calls kj168 _ _ t808 _ _ t812 true _ ?side1 ?side2 ?side3 ?side4 A215.out).mono ?_); (case side1 => exact rs HO810); (case side2 => exact rl HO810); (case side3 => exact rs HO814); (case side4 => exact rl HO814); rintro e w' ⟨rfl, ⟨nd, rfl⟩⟩; obtain ⟨Ao253, co253, eo253⟩ := Kd.R_slice HO818.out; subst eo253))
    go_ret
    exact ⟨eqR, bw HB⟩
   have c218b0 : ((t816.length : Int) == 0) = true := beq_iff_eq.mpr c218
   have c218b1 : ((t816.length : Int) != 0) = false := bne_eq_false_iff_eq.mpr c218
   clear c218
   (first | rw [c218b0] | (simp only [i64_w, i32_w]; rw [c218b0]) | skip)
   replace H := iteC H; rcases H with ⟨c219, H⟩ | ⟨c219, H⟩
   ·
    have c219b0 : decide ((t791.length : Int) < (t795.length : Int)) = true := decide_eq_true c219
    have c219b1 : decide (t791.length < t795.length) = true := decide_eq_true (Int.ofNat_lt.mp c219)
    clear c219
    obtain rfl := Option.some.inj H
    have hnb220 := up1 NB5_6
    obtain ⟨hcz221_0, hfz221_0⟩ := kc1 BK5
    go_wp2_with (first | ((with_reducible refine gate_callee (f := 15) rfl ?_); refine goK (some 237) Try.func15 #[.agg #[.slice Ao172 t791.length co172]] ?_; (with_reducible refine (impl_Solutions.calls kj168 _ _ t791 t808 true _ ?side1 ?side2 A210.out).mono ?_); (case side1 => exact rs HO_795000); (case side2 => exact rl HO_795000); rintro e w222 ⟨v809, rfl, ho0, hb⟩; refine ⟨_, rfl, ?_⟩; replace HO_795000 := ko HO_795000 hb; replace HO_800000 := ko HO_800000 hb; have HO810 := Aside0.mk (Kd.R_lower ho0 (below_size (bw HB))); refine mv2 hb BK5 BK6 ?_; clear BK5 BK6; intro BK5 BK6; replace HB := kw HB hb; (try clear hb); (try clear ho0); obtain ⟨hcz223_0, hfz223_0⟩ := kc1 BK6) | ((with_reducible refine gate_callee (f := 15) rfl ?_); refine goK (some 242) Try.func15 #[.agg #[.slice Ao176 t795.length co176]] ?_; (with_reducible refine (impl_Solutions.calls kj168 _ _ t795 t812 true _ ?side1 ?side2 A211.out).mono ?_); (case side1 => exact rs HO_800000); (case side2 => exact rl HO_800000); rintro e w224 ⟨v813, rfl, ho0, hb⟩; refine ⟨_, rfl, ?_⟩; replace HO_795000 := ko HO_795000 hb; replace HO_800000 := ko HO_800000 hb; have HO814 := Aside0.mk (Kd.R_lower (Kd.R_new' ho0 (Kd.R_lt (ro HO810))) (below_size (bw HB))); replace HO810 := Aside0.mk (Kd.R_elder' (ro HO810) (Kd.R_base ho0) hb); refine mv2 hb BK5 BK6 ?_; clear BK5 BK6; intro BK5 BK6; replace HB := kw HB hb; (try clear hb); (try clear ho0); obtain ⟨hcz225_0, hfz225_0⟩ := kc1 BK6) | ((with_reducible refine gate_callee (f := 16) rfl ?_); refine goK (some 247) Try.func16 #[.agg #[.slice Ao176 t795.length co176]] ?_; (with_reducible refine (impl_NeedlessClues.calls kj168 _ _ t795 t816 true _ ?side1 ?side2 A212.out).mono ?_); (case side1 => exact rs HO_800000); (case side2 => exact rl HO_800000); rintro e w226 ⟨v817, rfl, ho0, hb⟩; refine ⟨_, rfl, ?_⟩; replace HO_795000 := ko HO_795000 hb; replace HO_800000 := ko HO_800000 hb; replace HO810 := ko HO810 hb; replace HO814 := ko HO814 hb; have HO818 := Aside0.mk (Kd.R_lower ho0 (below_size (bw HB))); refine mv2 hb BK5 BK6 ?_; clear BK5 BK6; intro BK5 BK6; replace HB := kw HB hb; (try clear hb); (try clear ho0); obtain ⟨Ao227, co227, eo227⟩ := Kd.R_slice HO810.out; subst eo227; obtain ⟨Ao228, co228, eo228⟩ := Kd.R_slice HO814.out; subst eo228) | (go_at_call 17; (with_reducible refine (laws_qSnails.calls kj168 _ _ t808 _ _ t812 true _ ?side1 ?side2 ?side3 ?side4 A215.out).mono ?_); (case side1 => exact rs HO810); (case side2 => exact rl HO810); (case side3 => exact rs HO814); (case side4 => exact rl HO814); rintro e w' ⟨rfl, ⟨nd, rfl⟩⟩; obtain ⟨Ao229, co229, eo229⟩ := Kd.R_slice HO818.out; subst eo229; obtain ⟨hcz230_0, hfz230_0⟩ := kc1 BK6; obtain ⟨hcz231_0, hfz231_0⟩ := kc1 BK5))
    go_ret
    exact ⟨eqR, bw HB⟩
   have c219b0 : decide ((t791.length : Int) < (t795.length : Int)) = false := decide_eq_false c219
   have c219b1 : decide (t791.length < t795.length) = false := decide_eq_false (fun h => c219 (Int.ofNat_lt.mpr h))
   clear c219
   have H' := Aside0.mk H
   clear H
   have hnb232 := up1 NB5_6
   obtain ⟨hcz233_0, hfz233_0⟩ := kc1 BK5
   go_wp2_with (first | ((with_reducible refine gate_callee (f := 15) rfl ?_); refine goK (some 237) Try.func15 #[.agg #[.slice Ao172 t791.length co172]] ?_; (with_reducible refine (impl_Solutions.calls kj168 _ _ t791 t808 true _ ?side1 ?side2 A210.out).mono ?_); (case side1 => exact rs HO_795000); (case side2 => exact rl HO_795000); rintro e w234 ⟨v809, rfl, ho0, hb⟩; refine ⟨_, rfl, ?_⟩; replace HO_795000 := ko HO_795000 hb; replace HO_800000 := ko HO_800000 hb; have HO810 := Aside0.mk (Kd.R_lower ho0 (below_size (bw HB))); refine mv2 hb BK5 BK6 ?_; clear BK5 BK6; intro BK5 BK6; replace HB := kw HB hb; (try clear hb); (try clear ho0); obtain ⟨hcz235_0, hfz235_0⟩ := kc1 BK6) | ((with_reducible refine gate_callee (f := 15) rfl ?_); refine goK (some 242) Try.func15 #[.agg #[.slice Ao176 t795.length co176]] ?_; (with_reducible refine (impl_Solutions.calls kj168 _ _ t795 t812 true _ ?side1 ?side2 A211.out).mono ?_); (case side1 => exact rs HO_800000); (case side2 => exact rl HO_800000); rintro e w236 ⟨v813, rfl, ho0, hb⟩; refine ⟨_, rfl, ?_⟩; replace HO_795000 := ko HO_795000 hb; replace HO_800000 := ko HO_800000 hb; have HO814 := Aside0.mk (Kd.R_lower (Kd.R_new' ho0 (Kd.R_lt (ro HO810))) (below_size (bw HB))); replace HO810 := Aside0.mk (Kd.R_elder' (ro HO810) (Kd.R_base ho0) hb); refine mv2 hb BK5 BK6 ?_; clear BK5 BK6; intro BK5 BK6; replace HB := kw HB hb; (try clear hb); (try clear ho0); obtain ⟨hcz237_0, hfz237_0⟩ := kc1 BK6) | ((with_reducible refine gate_callee (f := 16) rfl ?_); refine goK (some 247) Try.func16 #[.agg #[.slice Ao176 t795.length co176]] ?_; (with_reducible refine (impl_NeedlessClues.calls kj168 _ _ t795 t816 true _ ?side1 ?side2 A212.out).mono ?_); (case side1 => exact rs HO_800000); (case side2 => exact rl HO_800000); rintro e w238 ⟨v817, rfl, ho0, hb⟩; refine ⟨_, rfl, ?_⟩; replace HO_795000 := ko HO_795000 hb; replace HO_800000 := ko HO_800000 hb; replace HO810 := ko HO810 hb; replace HO814 := ko HO814 hb; have HO818 := Aside0.mk (Kd.R_lower ho0 (below_size (bw HB))); refine mv2 hb BK5 BK6 ?_; clear BK5 BK6; intro BK5 BK6; replace HB := kw HB hb; (try clear hb); (try clear ho0); obtain ⟨Ao239, co239, eo239⟩ := Kd.R_slice HO810.out; subst eo239; obtain ⟨Ao240, co240, eo240⟩ := Kd.R_slice HO814.out; subst eo240) | (go_at_call 17; (with_reducible refine (laws_qSnails.calls kj168 _ _ t808 _ _ t812 true _ ?side1 ?side2 ?side3 ?side4 A215.out).mono ?_); (case side1 => exact rs HO810); (case side2 => exact rl HO810); (case side3 => exact rs HO814); (case side4 => exact rl HO814); rintro e w' ⟨rfl, ⟨nd, rfl⟩⟩; obtain ⟨Ao241, co241, eo241⟩ := Kd.R_slice HO818.out; subst eo241; obtain ⟨hcz242_0, hfz242_0⟩ := kc1 BK6; obtain ⟨hcz243_0, hfz243_0⟩ := kc1 BK5))
   go_meet
   case rel => exact ⟨_, H', ⟨by have := HJ7.out; have := HJ31.out; have := HJ168.out; first | omega | exact Nat.le_refl _⟩, ⟨bw HB⟩⟩
  case rest =>
   clear HC208
   try clear c1
   try clear hcz11_0
   try clear hcz11_1
   try clear hcz16_0
   try clear hcz173_0
   try clear hcz178_0
   try clear hcz179_0
   try clear hcz17_0
   try clear hcz17_1
   try clear hcz185_0
   try clear hcz186_0
   try clear hcz23_0
   try clear hfz11_0
   try clear hfz11_1
   try clear hfz16_0
   try clear hfz173_0
   try clear hfz178_0
   try clear hfz179_0
   try clear hfz17_0
   try clear hfz17_1
   try clear hfz185_0
   try clear hfz186_0
   try clear hfz23_0
   obtain ⟨kq, HA, HJ207, HB⟩ := hcut
   exact laws_FnSnailsHidden.r4 k A0 c0 l0 A1 c1 l1 r w HR1 HC1 t762 t763 t768 t773 nd gb1 gb2 gb3 u62 u63 u64 u65 u66 u67 u68 u69 u70 u71 u72 u73 u74 u75 u76 u77 u78 u79 u80 u81 u82 u83 u84 u85 u86 u87 u88 u89 u90 u91 u92 u93 u94 kj7 HJ7 u12 u13 u14 u15 u16 u17 u18 u19 u20 u21 u23 u24 u25 u95 u96 u97 u98 u99 u100 u101 u102 u103 u104 u105 u106 u107 u108 u109 u110 u111 u112 u113 u114 u115 u116 u117 u118 u119 u120 u121 u122 u123 u124 u125 u126 u127 u128 u129 u130 u131 u132 u133 u134 u135 u136 u137 u138 u139 u140 u141 u142 u143 u144 u145 u146 u147 u148 u149 u150 u151 u152 u153 u154 u155 u156 u157 u158 u159 u160 u161 u162 u163 u164 u165 u166 u167 u168 u169 u170 u171 u172 u173 u174 u175 u176 u177 u178 u179 u180 u181 u182 u183 u184 u185 u186 u187 u188 u189 u190 u191 u192 u193 u194 u195 u196 u197 kj31 HJ31 t798 t803 t805 t806 gb5 gb6 gb7 u198 u199 u200 u201 u202 u203 u204 u205 u206 u207 u208 u209 u210 u211 u212 u213 u214 u215 u216 u217 u218 u219 u220 u221 u222 u223 u224 u225 u226 u227 u228 u229 u230 u231 u232 kj168 HJ168 _ rfl _ (by assumption) wc u4 u33 u34 u35 u36 u37 u38 u233 u234 u235 u236 u237 u238 u239 u240 u241 u242 u243 u244 u245 u246 u247 u248 u249 u250 u251 u252 u253 u254 u255 u256 u257 u258 u259 u260 u261 u262 u263 u264 u265 u266 u267 u268 u269 u270 u271 u272 u273 u274 u275 u276 u277 u278 u279 kq HA HJ207 HB

end Go.Proofs.Ytlpjooijkeadbaa.PH
