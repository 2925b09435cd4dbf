-- Written by a program of our own (wip/tools/xprint.py) for this claim; Lean checks it.
import Derived.Test.YtlpjooijkeadbaaPHx0
import Derived.Test.YtlpjooijkeadbaaPHx3
import Derived.Test.YtlpjooijkeadbaaPHx4
import Derived.Test.YtlpjooijkeadbaaPHx5
import Derived.Test.YtlpjooijkeadbaaPHx7
import Derived.Test.YtlpjooijkeadbaaPHx8
import Derived.Test.YtlpjooijkeadbaaPHx9
import Derived.Test.YtlpjooijkeadbaaPHx12
import Derived.Test.YtlpjooijkeadbaaPHx14
import Derived.Test.YtlpjooijkeadbaaPHx15
import Derived.Test.YtlpjooijkeadbaaPHx16
import Derived.Test.YtlpjooijkeadbaaKC
import Derived.Test.YtlpjooijkeadbaaPHx17p2
namespace Go.Proofs.Ytlpjooijkeadbaa.PH
open Go.RowKit Go.Proofs.YtlpjooijkeadbaaK Go.Proofs.YtlpjooijkeadbaaW.PrintWords Go.Proofs.YtlpjooijkeadbaaW.PrintLast Go.Proofs.YtlpjooijkeadbaaW.PrintMore
attribute [local go_sem] max2_int min2_int max_two min_two max_three min_three max_four min_four   -- for this text's walks alone
set_option linter.unusedVariables false
set_option linter.unusedSimpArgs false

attribute [local go_sem high] eqA28
set_option maxHeartbeats 8000000 in
set_option maxRecDepth 100000 in
theorem laws_FnSnailsHidden.r1 (k : Nat) (A0 : Option Addr) (c0 : Nat) (l0 : List Int) (A1 : Option Addr) (c1 : Nat) (l1 : List Int) (r : Bool) (w : World) (HR1 : Aside0 ((Kd.int IntKind.u8).C w A1 l1.length l1)) (HC1 : Aside0 (l1.length ≤ c1)) (t760 t761 t762 t763 : Int) (t765 : List S28) (t768 t773 : Bool) (Qz1 : Exit → Act → World → Prop) (hQz1 : Qz1 = bodyPost Try.prog Try.f4 fun e w' => e = Ending.returned (Value.bool r) ∧ Below w.heap.size w w') (nd gb1 gb2 : Nat) (NB1_2 : Aside0 (gb1 ≠ gb2)) (NB2_1 : Aside0 (gb2 ≠ gb1)) (Ao14 : Option Addr) (co14 gb3 : Nat) (Kz6 : Act → World → Prop) (az7 : ∀ (a : Act) (w : World), Code.wp Try.prog (cAt [1, 1, 1, 1, 1, 1] Try.f4) Qz1 a w → Kz6 a w) (Kz8 : Act → World → Prop) (az9 : ∀ (a : Act) (w : World), Code.wp Try.prog (cAt [1, 1, 1, 1, 1, 0, 1] Try.f4) (Exit.then Kz6 Qz1) a w → Kz8 a w) (wc : World) (u62 u63 u64 u65 u66 u67 u68 u69 u70 u71 u72 u73 u74 u75 u76 u77 u78 u79 u80 u81 u82 u83 u84 u85 u86 u87 u88 u89 u90 u91 u92 u93 u94 : Value) (kq : Nat) (x95_7 : Bool) (HA : Aside0 (j0 kq l1 t762 t768 x95_7 t760 t761 t765 = some r)) (HJ7 : Aside0 (kq ≤ k)) (HO_770000 : Aside0 (k28.R 28 wc w.heap.size (fun x => True) (Value.slice Ao14 t765.length co14) t765)) (BK1 : Aside0 (wc.heap[gb1]? = some (Obj.cells #[Value.int IntKind.i64 t760, Value.int IntKind.i64 t761] 23))) (BK2 : Aside0 (wc.heap[gb2]? = some (Obj.cells #[Value.slice Ao14 t765.length co14] 26))) (HB : Aside0 (Below w.heap.size w wc)) :
    Kz8 { tmps := #[Value.slice A0 l0.length c0, Value.slice A1 l1.length c1, undef, undef, Value.bool false, Value.pointer (some { block := gb1, off := 0 }), Value.int IntKind.i64 t762, Value.int IntKind.i64 t763, Value.pointer (some { block := gb2, off := 0 }), Value.bool t768, Value.pointer (some { block := gb3, off := 0 }), Value.bool t773, undef, undef, undef, undef, undef, undef, undef, undef, undef, undef, undef, undef, undef, undef, undef, undef, undef, undef, undef, undef, undef, undef, undef, undef, undef, undef, undef, undef, undef, undef, undef, undef, undef, undef, undef, undef, undef, undef, undef, undef, undef, undef, undef, undef, undef, undef, undef, undef, undef, undef, u62, u63, u64, u65, u66, u67, u68, u69, u70, u71, u72, u73, u74, u75, u76, u77, u78, u79, u80, u81, u82, u83, u84, u85, u86, u87, u88, u89, u90, u91, u92, u93, u94, Value.bool x95_7, undef, undef, undef, undef, undef, undef, undef, undef, undef, undef, undef, undef, undef, undef, undef, undef, undef, undef, undef, undef, undef, undef, undef, undef, undef, undef, undef, undef, undef, undef, undef, undef, undef, undef, undef, undef, undef, undef, undef, undef, undef, undef, undef, undef, undef, undef, undef, undef, undef, undef, undef, undef, undef, undef, undef, undef, undef, undef, undef, undef, undef, undef, undef, undef, undef, undef, undef, undef, undef, undef, undef, undef, undef, undef, undef, undef, undef, undef, undef, undef, undef, undef, undef, undef, undef, undef, undef, undef, undef, undef, undef, undef, undef, undef, undef, undef, undef, undef, undef, undef, undef, undef, undef, undef, undef, undef, undef, undef, undef, undef, undef, undef, undef, undef, undef, undef, undef, undef, undef, undef, undef, undef, undef, undef, undef, undef, undef, undef, undef, undef, undef, undef, undef, undef, undef, undef, undef, undef, undef, undef, undef, undef, undef, undef, undef, undef, undef, undef, undef, undef, undef, undef, undef, undef, undef, undef, undef, undef, undef, undef, undef, undef, undef, undef, undef, undef, undef, undef, undef, undef, undef, undef, undef, undef, undef, undef, undef, undef, undef, undef, undef, undef, undef, undef, undef, undef, undef, undef, undef, undef, undef, undef, undef, undef, undef, undef, undef, undef, undef, undef, undef, undef, undef, undef, undef, undef, undef, undef, undef, undef, undef, undef, undef, undef, undef, undef, undef, undef, undef, undef, undef, undef, undef, undef, undef, undef, undef, undef, undef, undef, undef, undef, undef, undef, undef, undef, undef, undef, undef, undef, undef, undef, undef, undef, undef, undef, undef, undef, undef, undef, undef, undef, undef, undef, undef, undef, undef, undef, undef, undef, undef, undef, undef, undef, undef, undef, undef, undef, undef, undef, undef, undef, undef, undef, undef, undef, undef, undef, undef, undef, undef, undef, undef, undef, undef, undef, undef, undef, undef, undef, undef, undef, undef, undef, undef, undef, undef, undef, undef, undef, undef, undef, undef, undef, undef, undef, undef, undef, undef, undef, undef, undef, undef, undef, undef, undef, undef, undef, undef, undef, undef, undef, undef, undef, undef, undef, undef, undef, undef, undef, undef, undef, undef, undef, undef, undef, undef, undef, undef, undef, undef, undef, undef], defers := [] } wc  := by
 subst hQz1
 (try dsimp only)
 conv at az7 => ext a w; lhs; arg 2; whnf
 conv at az9 => ext a w; lhs; arg 2; whnf
 cases kq with
 | zero => exact absurd HA.out (by simp [laws_FnSnailsHidden.j0])
 | succ kj7 =>
  have H := HA.out
  clear HA
  simp only [laws_FnSnailsHidden.j0] at H
  replace H := iteB H; rcases H with ⟨rfl, H⟩ | ⟨rfl, H⟩
  ·
   obtain rfl := Option.some.inj H
   go_wp2
   go_ret
   exact ⟨eqR, bw HB⟩
  have HC32 := Aside0.mk H
  clear H
  go_upto_if 96 with (fail)
  go_cut [95, 96] from 1 to 0 (fun _ _ wc => ∃ (kq : Nat), Aside0 (laws_FnSnailsHidden.j3 kq l1 = some r) ∧ Aside0 (kq ≤ kj7) ∧ Aside0 (Below w.heap.size w wc))
  case first =>
   have H := HC32.out
   clear HC32
   replace H := iteB H; rcases H with ⟨rfl, H⟩ | ⟨rfl, H⟩
   rotate_left
   ·
    have H' := Aside0.mk H
    clear H
    go_wp2
    go_meet
    case rel => exact ⟨_, H', ⟨by have := HJ7.out; first | omega | exact Nat.le_refl _⟩, ⟨bw HB⟩⟩
   replace H := bindS H; obtain ⟨⟨t776, t777⟩, A34, H⟩ := H
   replace H := bindS H; obtain ⟨⟨t778, t779⟩, A35, H⟩ := H
   replace H := bindS H; obtain ⟨⟨t780, t781⟩, A36, H⟩ := H
   replace H := bindS H; obtain ⟨⟨t782, t783⟩, A37, H⟩ := H
   replace H := bindS H; obtain ⟨⟨t784, t785⟩, A38, H⟩ := H
   have HC39 := Aside0.mk H
   clear H
   have hnb40 := up1 NB1_2
   obtain ⟨hcz41_0, hcz41_1, hfz41_0, hfz41_1⟩ := kc2 BK1
   go_upto_region 14 with (first | ((with_reducible refine gate_callee (f := 8) rfl ?_); refine goK (some 99) Try.func8 #[.agg #[.int .i64 t760, .int .i64 t761], .int .i64 50] ?_; (with_reducible refine (impl_DaysToTop.calls t760 t761 50 t776 t777 _ A34.out).mono ?_); rintro e w42 ⟨rfl, hb⟩; refine ⟨_, rfl, ?_⟩; replace HO_770000 := ko HO_770000 hb; refine mv2 hb BK1 BK2 ?_; clear BK1 BK2; intro BK1 BK2; replace HB := kw HB hb; (try clear hb); obtain ⟨hcz43_0, hcz43_1, hfz43_0, hfz43_1⟩ := kc2 BK1) | ((with_reducible refine gate_callee (f := 9) rfl ?_); refine goK (some 106) Try.func9 #[.agg #[.int .i64 0, .int .i64 50, .int .i64 t776], .agg #[.int .i64 t760, .int .i64 t761]] ?_; (with_reducible refine (impl_DoesFit.calls 0 50 t776 t760 t761 t778 t779 _ A35.out).mono ?_); rintro e w44 ⟨rfl, hb⟩; refine ⟨_, rfl, ?_⟩; replace HO_770000 := ko HO_770000 hb; refine mv2 hb BK1 BK2 ?_; clear BK1 BK2; intro BK1 BK2; replace HB := kw HB hb; (try clear hb); obtain ⟨hcz45_0, hcz45_1, hfz45_0, hfz45_1⟩ := kc2 BK1) | ((with_reducible refine gate_callee (f := 10) rfl ?_); refine goK (some 111) Try.func10 #[.agg #[.int .i64 t760, .int .i64 t761], .int .i64 100, .int .i64 7] ?_; (with_reducible refine (impl_EveningHeight.calls t760 t761 100 7 t780 t781 _ A36.out).mono ?_); rintro e w46 ⟨rfl, hb⟩; refine ⟨_, rfl, ?_⟩; replace HO_770000 := ko HO_770000 hb; refine mv2 hb BK1 BK2 ?_; clear BK1 BK2; intro BK1 BK2; replace HB := kw HB hb; (try clear hb); obtain ⟨hcz47_0, hcz47_1, hfz47_0, hfz47_1⟩ := kc2 BK1) | ((with_reducible refine gate_callee (f := 9) rfl ?_); refine goK (some 118) Try.func9 #[.agg #[.int .i64 1, .int .i64 7, .int .i64 t780], .agg #[.int .i64 t760, .int .i64 t761]] ?_; (with_reducible refine (impl_DoesFit.calls 1 7 t780 t760 t761 t782 t783 _ A37.out).mono ?_); rintro e w48 ⟨rfl, hb⟩; refine ⟨_, rfl, ?_⟩; replace HO_770000 := ko HO_770000 hb; refine mv2 hb BK1 BK2 ?_; clear BK1 BK2; intro BK1 BK2; replace HB := kw HB hb; (try clear hb); obtain ⟨hcz49_0, hcz49_1, hfz49_0, hfz49_1⟩ := kc2 BK1) | ((with_reducible refine gate_callee (f := 9) rfl ?_); refine goK (some 129) Try.func9 #[.agg #[.int .i64 4, .int .i64 0, .int .i64 (wrap64 (t760 - t761))], .agg #[.int .i64 t760, .int .i64 t761]] ?_; (with_reducible refine (impl_DoesFit.calls 4 0 (wrap64 (t760 - t761)) t760 t761 t784 t785 _ A38.out).mono ?_); rintro e w50 ⟨rfl, hb⟩; refine ⟨_, rfl, ?_⟩; replace HO_770000 := ko HO_770000 hb; refine mv2 hb BK1 BK2 ?_; clear BK1 BK2; intro BK1 BK2; replace HB := kw HB hb; (try clear hb)))
   (try simp only [Act.put, List.setIfInBounds_toArray, List.set_cons_zero, List.set_cons_succ])
   go_cut [177, 95, 96, 97, 98, 99, 100, 101, 102, 103, 104, 105, 106, 107, 108, 109, 110, 111, 112, 113, 114, 115, 116, 117, 118, 119, 120, 121, 122, 123, 124, 125, 126, 127, 128, 129, 130, 131] from 1 to 0 (fun v177 _ _ _ _ _ _ _ _ _ _ _ _ _ _ _ _ _ _ _ _ _ _ _ _ _ _ _ _ _ _ _ _ _ _ _ _ _ wc => ∃ (kq : Nat) (x177_38 : Bool), v177 = .bool x177_38 ∧ Aside0 (laws_FnSnailsHidden.j1 kq l1 x177_38 t760 t761 t765 = some r) ∧ Aside0 (kq ≤ kj7) ∧ Aside0 (Kd.R k28 28 wc w.heap.size (fun _ => True) (.slice Ao14 t765.length co14) t765) ∧ Aside0 (wc.heap[gb1]? = some (.cells #[.int .i64 t760, .int .i64 t761] 23 (0, 0))) ∧ Aside0 (wc.heap[gb2]? = some (.cells #[(.slice Ao14 t765.length co14)] 26 (0, 0))) ∧ Aside0 (Below w.heap.size w wc))
   case first =>
    have H := HC39.out
    clear HC39
    replace H := bindS H; obtain ⟨t786, A51, H⟩ := H
    replace H := iteB H; rcases H with ⟨rfl, H⟩ | ⟨rfl, H⟩
    rotate_left
    ·
     have H' := Aside0.mk H
     clear H
     have hnb132 := up1 NB2_1
     obtain ⟨hcz133_0, hfz133_0⟩ := kc1 BK2
     go_wp2_with (first | ((with_reducible refine gate_callee (f := 11) rfl ?_); refine goK (some 133) Try.func11 #[.agg #[.slice Ao14 t765.length co14]] ?_; (with_reducible refine (impl_IsPuzzle.calls kj7 _ _ t765 false _ ?side1 ?side2 A51.out).mono ?_); (case side1 => exact rs HO_770000); (case side2 => exact rl HO_770000); rintro e w134 ⟨rfl, hb⟩; refine ⟨_, rfl, ?_⟩; replace HO_770000 := ko HO_770000 hb; refine mv2 hb BK1 BK2 ?_; clear BK1 BK2; intro BK1 BK2; replace HB := kw HB hb; (try clear hb)))
     go_meet
     case rel => exact ⟨_, (true), (by first | rfl | (simp; done) | (simp [*]; done)), H', ⟨by have := HJ7.out; first | omega | exact Nat.le_refl _⟩, ⟨ro HO_770000⟩, ⟨bk BK1⟩, ⟨bk BK2⟩, ⟨bw HB⟩⟩
    replace H := iteC H; rcases H with ⟨c53, H⟩ | ⟨c53, H⟩
    rotate_left
    ·
     have c53b0 : ((t765.length : Int) == t762) = false := beq_eq_false_iff_ne.mpr c53
     have c53b1 : ((t765.length : Int) != t762) = true := bne_iff_ne.mpr c53
     (first | rw [c53b0] | (simp only [i64_w, i32_w]; rw [c53b0]) | skip)
     have H' := Aside0.mk H
     clear H
     have hnb128 := up1 NB2_1
     obtain ⟨hcz129_0, hfz129_0⟩ := kc1 BK2
     go_wp2_with (first | ((with_reducible refine gate_callee (f := 11) rfl ?_); refine goK (some 133) Try.func11 #[.agg #[.slice Ao14 t765.length co14]] ?_; (with_reducible refine (impl_IsPuzzle.calls kj7 _ _ t765 true _ ?side1 ?side2 A51.out).mono ?_); (case side1 => exact rs HO_770000); (case side2 => exact rl HO_770000); rintro e w130 ⟨rfl, hb⟩; refine ⟨_, rfl, ?_⟩; replace HO_770000 := ko HO_770000 hb; refine mv2 hb BK1 BK2 ?_; clear BK1 BK2; intro BK1 BK2; replace HB := kw HB hb; (try clear hb); obtain ⟨hcz131_0, hfz131_0⟩ := kc1 BK2))
     go_meet
     case rel => exact ⟨_, (true), (by first | rfl | (simp; done) | (simp [*]; done)), H', ⟨by have := HJ7.out; first | omega | exact Nat.le_refl _⟩, ⟨ro HO_770000⟩, ⟨bk BK1⟩, ⟨bk BK2⟩, ⟨bw HB⟩⟩
    have c53b0 : ((t765.length : Int) == t762) = true := beq_iff_eq.mpr c53
    have c53b1 : ((t765.length : Int) != t762) = false := bne_eq_false_iff_eq.mpr c53
    clear c53
    (first | rw [c53b0] | (simp only [i64_w, i32_w]; rw [c53b0]) | skip)
    replace H := iteB H; rcases H with ⟨rfl, H⟩ | ⟨rfl, H⟩
    ·
     replace H := iteB H; rcases H with ⟨rfl, H⟩ | ⟨rfl, H⟩
     rotate_left
     ·
      have H' := Aside0.mk H
      clear H
      have hnb85 := up1 NB2_1
      obtain ⟨hcz86_0, hfz86_0⟩ := kc1 BK2
      go_wp2_with (first | ((with_reducible refine gate_callee (f := 11) rfl ?_); refine goK (some 133) Try.func11 #[.agg #[.slice Ao14 t765.length co14]] ?_; (with_reducible refine (impl_IsPuzzle.calls kj7 _ _ t765 true _ ?side1 ?side2 A51.out).mono ?_); (case side1 => exact rs HO_770000); (case side2 => exact rl HO_770000); rintro e w87 ⟨rfl, hb⟩; refine ⟨_, rfl, ?_⟩; replace HO_770000 := ko HO_770000 hb; refine mv2 hb BK1 BK2 ?_; clear BK1 BK2; intro BK1 BK2; replace HB := kw HB hb; (try clear hb); obtain ⟨hcz88_0, hfz88_0⟩ := kc1 BK2))
      go_meet
      case rel => exact ⟨_, (true), (by first | rfl | (simp; done) | (simp [*]; done)), H', ⟨by have := HJ7.out; first | omega | exact Nat.le_refl _⟩, ⟨ro HO_770000⟩, ⟨bk BK1⟩, ⟨bk BK2⟩, ⟨bw HB⟩⟩
     replace H := iteB H; rcases H with ⟨rfl, H⟩ | ⟨rfl, H⟩
     rotate_left
     ·
      have H' := Aside0.mk H
      clear H
      have hnb81 := up1 NB2_1
      obtain ⟨hcz82_0, hfz82_0⟩ := kc1 BK2
      go_wp2_with (first | ((with_reducible refine gate_callee (f := 11) rfl ?_); refine goK (some 133) Try.func11 #[.agg #[.slice Ao14 t765.length co14]] ?_; (with_reducible refine (impl_IsPuzzle.calls kj7 _ _ t765 true _ ?side1 ?side2 A51.out).mono ?_); (case side1 => exact rs HO_770000); (case side2 => exact rl HO_770000); rintro e w83 ⟨rfl, hb⟩; refine ⟨_, rfl, ?_⟩; replace HO_770000 := ko HO_770000 hb; refine mv2 hb BK1 BK2 ?_; clear BK1 BK2; intro BK1 BK2; replace HB := kw HB hb; (try clear hb); obtain ⟨hcz84_0, hfz84_0⟩ := kc1 BK2))
      go_meet
      case rel => exact ⟨_, (true), (by first | rfl | (simp; done) | (simp [*]; done)), H', ⟨by have := HJ7.out; first | omega | exact Nat.le_refl _⟩, ⟨ro HO_770000⟩, ⟨bk BK1⟩, ⟨bk BK2⟩, ⟨bw HB⟩⟩
     replace H := iteB H; rcases H with ⟨rfl, H⟩ | ⟨rfl, H⟩
     rotate_left
     ·
      have H' := Aside0.mk H
      clear H
      have hnb77 := up1 NB2_1
      obtain ⟨hcz78_0, hfz78_0⟩ := kc1 BK2
      go_wp2_with (first | ((with_reducible refine gate_callee (f := 11) rfl ?_); refine goK (some 133) Try.func11 #[.agg #[.slice Ao14 t765.length co14]] ?_; (with_reducible refine (impl_IsPuzzle.calls kj7 _ _ t765 true _ ?side1 ?side2 A51.out).mono ?_); (case side1 => exact rs HO_770000); (case side2 => exact rl HO_770000); rintro e w79 ⟨rfl, hb⟩; refine ⟨_, rfl, ?_⟩; replace HO_770000 := ko HO_770000 hb; refine mv2 hb BK1 BK2 ?_; clear BK1 BK2; intro BK1 BK2; replace HB := kw HB hb; (try clear hb); obtain ⟨hcz80_0, hfz80_0⟩ := kc1 BK2))
      go_meet
      case rel => exact ⟨_, (true), (by first | rfl | (simp; done) | (simp [*]; done)), H', ⟨by have := HJ7.out; first | omega | exact Nat.le_refl _⟩, ⟨ro HO_770000⟩, ⟨bk BK1⟩, ⟨bk BK2⟩, ⟨bw HB⟩⟩
     replace H := iteB H; rcases H with ⟨rfl, H⟩ | ⟨rfl, H⟩
     rotate_left
     ·
      have H' := Aside0.mk H
      clear H
      have hnb73 := up1 NB2_1
      obtain ⟨hcz74_0, hfz74_0⟩ := kc1 BK2
      go_wp2_with (first | ((with_reducible refine gate_callee (f := 11) rfl ?_); refine goK (some 133) Try.func11 #[.agg #[.slice Ao14 t765.length co14]] ?_; (with_reducible refine (impl_IsPuzzle.calls kj7 _ _ t765 true _ ?side1 ?side2 A51.out).mono ?_); (case side1 => exact rs HO_770000); (case side2 => exact rl HO_770000); rintro e w75 ⟨rfl, hb⟩; refine ⟨_, rfl, ?_⟩; replace HO_770000 := ko HO_770000 hb; refine mv2 hb BK1 BK2 ?_; clear BK1 BK2; intro BK1 BK2; replace HB := kw HB hb; (try clear hb); obtain ⟨hcz76_0, hfz76_0⟩ := kc1 BK2))
      go_meet
      case rel => exact ⟨_, (true), (by first | rfl | (simp; done) | (simp [*]; done)), H', ⟨by have := HJ7.out; first | omega | exact Nat.le_refl _⟩, ⟨ro HO_770000⟩, ⟨bk BK1⟩, ⟨bk BK2⟩, ⟨bw HB⟩⟩
     replace H := iteB H; rcases H with ⟨rfl, H⟩ | ⟨rfl, H⟩
     rotate_left
     ·
      have H' := Aside0.mk H
      clear H
      have hnb69 := up1 NB2_1
      obtain ⟨hcz70_0, hfz70_0⟩ := kc1 BK2
      go_wp2_with (first | ((with_reducible refine gate_callee (f := 11) rfl ?_); refine goK (some 133) Try.func11 #[.agg #[.slice Ao14 t765.length co14]] ?_; (with_reducible refine (impl_IsPuzzle.calls kj7 _ _ t765 true _ ?side1 ?side2 A51.out).mono ?_); (case side1 => exact rs HO_770000); (case side2 => exact rl HO_770000); rintro e w71 ⟨rfl, hb⟩; refine ⟨_, rfl, ?_⟩; replace HO_770000 := ko HO_770000 hb; refine mv2 hb BK1 BK2 ?_; clear BK1 BK2; intro BK1 BK2; replace HB := kw HB hb; (try clear hb); obtain ⟨hcz72_0, hfz72_0⟩ := kc1 BK2))
      go_meet
      case rel => exact ⟨_, (true), (by first | rfl | (simp; done) | (simp [*]; done)), H', ⟨by have := HJ7.out; first | omega | exact Nat.le_refl _⟩, ⟨ro HO_770000⟩, ⟨bk BK1⟩, ⟨bk BK2⟩, ⟨bw HB⟩⟩
     replace H := iteB H; rcases H with ⟨rfl, H⟩ | ⟨rfl, H⟩
     ·
      have H' := Aside0.mk H
      clear H
      have hnb61 := up1 NB2_1
      obtain ⟨hcz62_0, hfz62_0⟩ := kc1 BK2
      go_wp2_with (first | ((with_reducible refine gate_callee (f := 11) rfl ?_); refine goK (some 133) Try.func11 #[.agg #[.slice Ao14 t765.length co14]] ?_; (with_reducible refine (impl_IsPuzzle.calls kj7 _ _ t765 true _ ?side1 ?side2 A51.out).mono ?_); (case side1 => exact rs HO_770000); (case side2 => exact rl HO_770000); rintro e w63 ⟨rfl, hb⟩; refine ⟨_, rfl, ?_⟩; replace HO_770000 := ko HO_770000 hb; refine mv2 hb BK1 BK2 ?_; clear BK1 BK2; intro BK1 BK2; replace HB := kw HB hb; (try clear hb); obtain ⟨hcz64_0, hfz64_0⟩ := kc1 BK2))
      go_meet
      case rel => exact ⟨_, (!t784), (by first | rfl | (simp; done) | (simp [*]; done)), H', ⟨by have := HJ7.out; first | omega | exact Nat.le_refl _⟩, ⟨ro HO_770000⟩, ⟨bk BK1⟩, ⟨bk BK2⟩, ⟨bw HB⟩⟩
     have H' := Aside0.mk H
     clear H
     have hnb65 := up1 NB2_1
     obtain ⟨hcz66_0, hfz66_0⟩ := kc1 BK2
     go_wp2_with (first | ((with_reducible refine gate_callee (f := 11) rfl ?_); refine goK (some 133) Try.func11 #[.agg #[.slice Ao14 t765.length co14]] ?_; (with_reducible refine (impl_IsPuzzle.calls kj7 _ _ t765 true _ ?side1 ?side2 A51.out).mono ?_); (case side1 => exact rs HO_770000); (case side2 => exact rl HO_770000); rintro e w67 ⟨rfl, hb⟩; refine ⟨_, rfl, ?_⟩; replace HO_770000 := ko HO_770000 hb; refine mv2 hb BK1 BK2 ?_; clear BK1 BK2; intro BK1 BK2; replace HB := kw HB hb; (try clear hb); obtain ⟨hcz68_0, hfz68_0⟩ := kc1 BK2))
     go_meet
     case rel => exact ⟨_, (true), (by first | rfl | (simp; done) | (simp [*]; done)), H', ⟨by have := HJ7.out; first | omega | exact Nat.le_refl _⟩, ⟨ro HO_770000⟩, ⟨bk BK1⟩, ⟨bk BK2⟩, ⟨bw HB⟩⟩
    replace H := iteC H; rcases H with ⟨c89, H⟩ | ⟨c89, H⟩
    rotate_left
    ·
     have c89b0 : (t776 == 0) = false := beq_eq_false_iff_ne.mpr c89
     have c89b1 : (t776 != 0) = true := bne_iff_ne.mpr c89
     have H' := Aside0.mk H
     clear H
     have hnb124 := up1 NB2_1
     obtain ⟨hcz125_0, hfz125_0⟩ := kc1 BK2
     go_wp2_with (first | ((with_reducible refine gate_callee (f := 11) rfl ?_); refine goK (some 133) Try.func11 #[.agg #[.slice Ao14 t765.length co14]] ?_; (with_reducible refine (impl_IsPuzzle.calls kj7 _ _ t765 true _ ?side1 ?side2 A51.out).mono ?_); (case side1 => exact rs HO_770000); (case side2 => exact rl HO_770000); rintro e w126 ⟨rfl, hb⟩; refine ⟨_, rfl, ?_⟩; replace HO_770000 := ko HO_770000 hb; refine mv2 hb BK1 BK2 ?_; clear BK1 BK2; intro BK1 BK2; replace HB := kw HB hb; (try clear hb); obtain ⟨hcz127_0, hfz127_0⟩ := kc1 BK2))
     go_meet
     case rel => exact ⟨_, (true), (by first | rfl | (simp; done) | (simp [*]; done)), H', ⟨by have := HJ7.out; first | omega | exact Nat.le_refl _⟩, ⟨ro HO_770000⟩, ⟨bk BK1⟩, ⟨bk BK2⟩, ⟨bw HB⟩⟩
    have c89b0 : (t776 == 0) = true := beq_iff_eq.mpr c89
    have c89b1 : (t776 != 0) = false := bne_eq_false_iff_eq.mpr c89
    clear c89
    replace H := iteB H; rcases H with ⟨rfl, H⟩ | ⟨rfl, H⟩
    rotate_left
    ·
     have H' := Aside0.mk H
     clear H
     have hnb120 := up1 NB2_1
     obtain ⟨hcz121_0, hfz121_0⟩ := kc1 BK2
     go_wp2_with (first | ((with_reducible refine gate_callee (f := 11) rfl ?_); refine goK (some 133) Try.func11 #[.agg #[.slice Ao14 t765.length co14]] ?_; (with_reducible refine (impl_IsPuzzle.calls kj7 _ _ t765 true _ ?side1 ?side2 A51.out).mono ?_); (case side1 => exact rs HO_770000); (case side2 => exact rl HO_770000); rintro e w122 ⟨rfl, hb⟩; refine ⟨_, rfl, ?_⟩; replace HO_770000 := ko HO_770000 hb; refine mv2 hb BK1 BK2 ?_; clear BK1 BK2; intro BK1 BK2; replace HB := kw HB hb; (try clear hb); obtain ⟨hcz123_0, hfz123_0⟩ := kc1 BK2))
     go_meet
     case rel => exact ⟨_, (true), (by first | rfl | (simp; done) | (simp [*]; done)), H', ⟨by have := HJ7.out; first | omega | exact Nat.le_refl _⟩, ⟨ro HO_770000⟩, ⟨bk BK1⟩, ⟨bk BK2⟩, ⟨bw HB⟩⟩
    replace H := iteB H; rcases H with ⟨rfl, H⟩ | ⟨rfl, H⟩
    rotate_left
    ·
     have H' := Aside0.mk H
     clear H
     have hnb116 := up1 NB2_1
     obtain ⟨hcz117_0, hfz117_0⟩ := kc1 BK2
     go_wp2_with (first | ((with_reducible refine gate_callee (f := 11) rfl ?_); refine goK (some 133) Try.func11 #[.agg #[.slice Ao14 t765.length co14]] ?_; (with_reducible refine (impl_IsPuzzle.calls kj7 _ _ t765 true _ ?side1 ?side2 A51.out).mono ?_); (case side1 => exact rs HO_770000); (case side2 => exact rl HO_770000); rintro e w118 ⟨rfl, hb⟩; refine ⟨_, rfl, ?_⟩; replace HO_770000 := ko HO_770000 hb; refine mv2 hb BK1 BK2 ?_; clear BK1 BK2; intro BK1 BK2; replace HB := kw HB hb; (try clear hb); obtain ⟨hcz119_0, hfz119_0⟩ := kc1 BK2))
     go_meet
     case rel => exact ⟨_, (true), (by first | rfl | (simp; done) | (simp [*]; done)), H', ⟨by have := HJ7.out; first | omega | exact Nat.le_refl _⟩, ⟨ro HO_770000⟩, ⟨bk BK1⟩, ⟨bk BK2⟩, ⟨bw HB⟩⟩
    replace H := iteB H; rcases H with ⟨rfl, H⟩ | ⟨rfl, H⟩
    rotate_left
    ·
     have H' := Aside0.mk H
     clear H
     have hnb112 := up1 NB2_1
     obtain ⟨hcz113_0, hfz113_0⟩ := kc1 BK2
     go_wp2_with (first | ((with_reducible refine gate_callee (f := 11) rfl ?_); refine goK (some 133) Try.func11 #[.agg #[.slice Ao14 t765.length co14]] ?_; (with_reducible refine (impl_IsPuzzle.calls kj7 _ _ t765 true _ ?side1 ?side2 A51.out).mono ?_); (case side1 => exact rs HO_770000); (case side2 => exact rl HO_770000); rintro e w114 ⟨rfl, hb⟩; refine ⟨_, rfl, ?_⟩; replace HO_770000 := ko HO_770000 hb; refine mv2 hb BK1 BK2 ?_; clear BK1 BK2; intro BK1 BK2; replace HB := kw HB hb; (try clear hb); obtain ⟨hcz115_0, hfz115_0⟩ := kc1 BK2))
     go_meet
     case rel => exact ⟨_, (true), (by first | rfl | (simp; done) | (simp [*]; done)), H', ⟨by have := HJ7.out; first | omega | exact Nat.le_refl _⟩, ⟨ro HO_770000⟩, ⟨bk BK1⟩, ⟨bk BK2⟩, ⟨bw HB⟩⟩
    replace H := iteB H; rcases H with ⟨rfl, H⟩ | ⟨rfl, H⟩
    rotate_left
    ·
     have H' := Aside0.mk H
     clear H
     have hnb108 := up1 NB2_1
     obtain ⟨hcz109_0, hfz109_0⟩ := kc1 BK2
     go_wp2_with (first | ((with_reducible refine gate_callee (f := 11) rfl ?_); refine goK (some 133) Try.func11 #[.agg #[.slice Ao14 t765.length co14]] ?_; (with_reducible refine (impl_IsPuzzle.calls kj7 _ _ t765 true _ ?side1 ?side2 A51.out).mono ?_); (case side1 => exact rs HO_770000); (case side2 => exact rl HO_770000); rintro e w110 ⟨rfl, hb⟩; refine ⟨_, rfl, ?_⟩; replace HO_770000 := ko HO_770000 hb; refine mv2 hb BK1 BK2 ?_; clear BK1 BK2; intro BK1 BK2; replace HB := kw HB hb; (try clear hb); obtain ⟨hcz111_0, hfz111_0⟩ := kc1 BK2))
     go_meet
     case rel => exact ⟨_, (true), (by first | rfl | (simp; done) | (simp [*]; done)), H', ⟨by have := HJ7.out; first | omega | exact Nat.le_refl _⟩, ⟨ro HO_770000⟩, ⟨bk BK1⟩, ⟨bk BK2⟩, ⟨bw HB⟩⟩
    replace H := iteB H; rcases H with ⟨rfl, H⟩ | ⟨rfl, H⟩
    rotate_left
    ·
     have H' := Aside0.mk H
     clear H
     have hnb104 := up1 NB2_1
     obtain ⟨hcz105_0, hfz105_0⟩ := kc1 BK2
     go_wp2_with (first | ((with_reducible refine gate_callee (f := 11) rfl ?_); refine goK (some 133) Try.func11 #[.agg #[.slice Ao14 t765.length co14]] ?_; (with_reducible refine (impl_IsPuzzle.calls kj7 _ _ t765 true _ ?side1 ?side2 A51.out).mono ?_); (case side1 => exact rs HO_770000); (case side2 => exact rl HO_770000); rintro e w106 ⟨rfl, hb⟩; refine ⟨_, rfl, ?_⟩; replace HO_770000 := ko HO_770000 hb; refine mv2 hb BK1 BK2 ?_; clear BK1 BK2; intro BK1 BK2; replace HB := kw HB hb; (try clear hb); obtain ⟨hcz107_0, hfz107_0⟩ := kc1 BK2))
     go_meet
     case rel => exact ⟨_, (true), (by first | rfl | (simp; done) | (simp [*]; done)), H', ⟨by have := HJ7.out; first | omega | exact Nat.le_refl _⟩, ⟨ro HO_770000⟩, ⟨bk BK1⟩, ⟨bk BK2⟩, ⟨bw HB⟩⟩
    replace H := iteB H; rcases H with ⟨rfl, H⟩ | ⟨rfl, H⟩
    ·
     have H' := Aside0.mk H
     clear H
     have hnb96 := up1 NB2_1
     obtain ⟨hcz97_0, hfz97_0⟩ := kc1 BK2
     go_wp2_with (first | ((with_reducible refine gate_callee (f := 11) rfl ?_); refine goK (some 133) Try.func11 #[.agg #[.slice Ao14 t765.length co14]] ?_; (with_reducible refine (impl_IsPuzzle.calls kj7 _ _ t765 true _ ?side1 ?side2 A51.out).mono ?_); (case side1 => exact rs HO_770000); (case side2 => exact rl HO_770000); rintro e w98 ⟨rfl, hb⟩; refine ⟨_, rfl, ?_⟩; replace HO_770000 := ko HO_770000 hb; refine mv2 hb BK1 BK2 ?_; clear BK1 BK2; intro BK1 BK2; replace HB := kw HB hb; (try clear hb); obtain ⟨hcz99_0, hfz99_0⟩ := kc1 BK2))
     go_meet
     case rel => exact ⟨_, (!t784), (by first | rfl | (simp; done) | (simp [*]; done)), H', ⟨by have := HJ7.out; first | omega | exact Nat.le_refl _⟩, ⟨ro HO_770000⟩, ⟨bk BK1⟩, ⟨bk BK2⟩, ⟨bw HB⟩⟩
    have H' := Aside0.mk H
    clear H
    have hnb100 := up1 NB2_1
    obtain ⟨hcz101_0, hfz101_0⟩ := kc1 BK2
    go_wp2_with (first | ((with_reducible refine gate_callee (f := 11) rfl ?_); refine goK (some 133) Try.func11 #[.agg #[.slice Ao14 t765.length co14]] ?_; (with_reducible refine (impl_IsPuzzle.calls kj7 _ _ t765 true _ ?side1 ?side2 A51.out).mono ?_); (case side1 => exact rs HO_770000); (case side2 => exact rl HO_770000); rintro e w102 ⟨rfl, hb⟩; refine ⟨_, rfl, ?_⟩; replace HO_770000 := ko HO_770000 hb; refine mv2 hb BK1 BK2 ?_; clear BK1 BK2; intro BK1 BK2; replace HB := kw HB hb; (try clear hb); obtain ⟨hcz103_0, hfz103_0⟩ := kc1 BK2))
    go_meet
    case rel => exact ⟨_, (true), (by first | rfl | (simp; done) | (simp [*]; done)), H', ⟨by have := HJ7.out; first | omega | exact Nat.le_refl _⟩, ⟨ro HO_770000⟩, ⟨bk BK1⟩, ⟨bk BK2⟩, ⟨bw HB⟩⟩
   case rest =>
    clear HC39
    try clear c1
    try clear hcz11_0
    try clear hcz11_1
    try clear hcz16_0
    try clear hcz17_0
    try clear hcz17_1
    try clear hcz23_0
    try clear hcz41_0
    try clear hcz41_1
    try clear hcz43_0
    try clear hcz43_1
    try clear hcz45_0
    try clear hcz45_1
    try clear hcz47_0
    try clear hcz47_1
    try clear hcz49_0
    try clear hcz49_1
    try clear hfz11_0
    try clear hfz11_1
    try clear hfz16_0
    try clear hfz17_0
    try clear hfz17_1
    try clear hfz23_0
    try clear hfz41_0
    try clear hfz41_1
    try clear hfz43_0
    try clear hfz43_1
    try clear hfz45_0
    try clear hfz45_1
    try clear hfz47_0
    try clear hfz47_1
    try clear hfz49_0
    try clear hfz49_1
    obtain ⟨kq, x177_38, rfl, HA, HJ38, HO_770000, BK1, BK2, HB⟩ := hcut
    cases kq with
    | zero => exact absurd HA.out (by simp [laws_FnSnailsHidden.j1])
    | succ kj38 =>
     have H := HA.out
     clear HA
     simp only [laws_FnSnailsHidden.j1] at H
     replace H := iteB H; rcases H with ⟨rfl, H⟩ | ⟨rfl, H⟩
     ·
      obtain rfl := Option.some.inj H
      go_wp2
      go_ret
      exact ⟨eqR, bw HB⟩
     have H' := Aside0.mk H
     clear H
     have hnb136 := up1 NB2_1
     obtain ⟨hcz137_0, hfz137_0⟩ := kc1 BK2
     go_wp2
     go_loopg [181] kj38 (fun kq v181 w' => ∃ (x181_3 : Int), v181 = .int .i64 x181_3 ∧ Aside0 (laws_FnSnailsHidden.l0 kq l1 t765 (t765.length : Int) x181_3 t760 t761 = some r) ∧ Aside0 (kq ≤ kj38) ∧ Aside0 (Kd.R k28 28 w' w.heap.size (fun _ => True) (.slice Ao14 t765.length co14) t765) ∧ Aside0 (Kd.R k28 28 w' w.heap.size (fun _ => True) (.slice Ao14 t765.length co14) t765) ∧ Aside0 (w'.heap[gb1]? = some (.cells #[.int .i64 t760, .int .i64 t761] 23 (0, 0))) ∧ Aside0 (w'.heap[gb2]? = some (.cells #[(.slice Ao14 t765.length co14)] 26 (0, 0))) ∧ Aside0 (Below w.heap.size w w'))
     case atStart => exact ⟨(0), (by first | rfl | (simp; done) | (simp [*]; done)), H', ⟨Nat.le_refl _⟩, ⟨ro HO_770000⟩, ⟨ro HO_770000⟩, ⟨bk BK1⟩, ⟨bk BK2⟩, ⟨bw HB⟩⟩
     case round =>
      clear H'
      try clear c1
      try clear hcz11_0
      try clear hcz11_1
      try clear hcz137_0
      try clear hcz16_0
      try clear hcz17_0
      try clear hcz17_1
      try clear hcz23_0
      try clear hcz41_0
      try clear hcz41_1
      try clear hcz43_0
      try clear hcz43_1
      try clear hcz45_0
      try clear hcz45_1
      try clear hcz47_0
      try clear hcz47_1
      try clear hcz49_0
      try clear hcz49_1
      try clear hfz11_0
      try clear hfz11_1
      try clear hfz137_0
      try clear hfz16_0
      try clear hfz17_0
      try clear hfz17_1
      try clear hfz23_0
      try clear hfz41_0
      try clear hfz41_1
      try clear hfz43_0
      try clear hfz43_1
      try clear hfz45_0
      try clear hfz45_1
      try clear hfz47_0
      try clear hfz47_1
      try clear hfz49_0
      try clear hfz49_1
      obtain ⟨x181_3, rfl, HA, HK3, HO_179, HO_770000, BK1, BK2, HB⟩ := hrel
      cases gk with
      | zero => exact absurd HA.out (by simp [laws_FnSnailsHidden.l0])
      | succ k3 =>
       have H := HA.out
       clear HA
       simp only [laws_FnSnailsHidden.l0] at H
       replace H := iteC H; rcases H with ⟨c138, H⟩ | ⟨c138, H⟩
       rotate_left
       ·
        have c138b0 : decide (x181_3 < (t765.length : Int)) = false := decide_eq_false c138
        clear c138
        have H' := Aside0.mk H
        clear H
        go_wp2
        go_meet
        case rel => exact ⟨_, H', ⟨by have := HJ7.out; have := HJ38.out; have := HK3.out; first | omega | exact Nat.le_refl _⟩, ⟨bw HB⟩⟩
       have c138b0 : decide (x181_3 < (t765.length : Int)) = true := decide_eq_true c138
       clear c138
       replace H := iteS H; obtain ⟨c139, H⟩ := H
       have c139b0 : decide (0 ≤ x181_3) = true := decide_eq_true c139
       clear c139
       replace H := iteS H; obtain ⟨c140, H⟩ := H
       have c140b0 : decide (x181_3 < (t765.length : Int)) = true := decide_eq_true c140
       clear c140
       replace H := bindS H; obtain ⟨⟨t789, t790⟩, A141, H⟩ := H
       replace H := iteB H; rcases H with ⟨rfl, H⟩ | ⟨rfl, H⟩
       rotate_left
       ·
        obtain rfl := Option.some.inj H
        have p787 : 0 ≤ (x181_3 : Int) := of_decide_eq_true (by first | (with_reducible assumption) | assumption)
        have q787 : x181_3 < (t765.length : Int) := of_decide_eq_true (by first | (with_reducible assumption) | assumption)
        obtain ⟨ad787, e787, hx787_0, hx787_1, hx787_2⟩ := at_T28 (Kd.R_reads' HO_179.out).2.2 x181_3 p787 q787
        cases e787
        replace p787 := eq_true p787
        replace q787 := eq_true q787
        go_wp2_with (first | ((with_reducible refine gate_dst (N := 23) rfl ?_); (try (refine gate_guard (by rfl) ?_; dsimp only)); refine boxK HB (N := 23) (cs := #[.int .i64 0, .int .i64 0, .int .i64 0]) (t := 28) (h := ?_); clear HB; intro gb4 hg w158 BK4 GW4 GE4 HB hb; replace HO_179 := Aside0.mk (Kd.R_below (Kd.R_elderB (ro HO_179) gb4 (Nat.le_of_eq hg.symm)) hb); replace HO_770000 := Aside0.mk (Kd.R_below (Kd.R_elderB (ro HO_770000) gb4 (Nat.le_of_eq hg.symm)) hb); obtain ⟨NB1_4, NB4_1, NB2_4, NB4_2⟩ := nv2 hg BK1 BK2; refine mv2 hb BK1 BK2 ?_; clear BK1 BK2; intro BK1 BK2; clear hb hg; have hnb159 := up2 NB4_1 NB4_2; obtain ⟨hcz161_0, hcz161_1, hcz161_2, hfz161_0, hfz161_1, hfz161_2⟩ := kc3 BK4; have hnb162 := up1 NB1_2; obtain ⟨hcz163_0, hcz163_1, hfz163_0, hfz163_1⟩ := kc2 BK1) | ((with_reducible refine gate_callee (f := 9) rfl ?_); refine goK (some 188) Try.func9 #[.agg #[.int .i64 ((rd_T28 t765 x181_3).f0), .int .i64 ((rd_T28 t765 x181_3).f1), .int .i64 ((rd_T28 t765 x181_3).f2)], .agg #[.int .i64 t760, .int .i64 t761]] ?_; (with_reducible refine (impl_DoesFit.calls ((rd_T28 t765 x181_3).f0) ((rd_T28 t765 x181_3).f1) ((rd_T28 t765 x181_3).f2) t760 t761 t789 false _ A141.out).mono ?_); rintro e w164 ⟨rfl, hb⟩; refine ⟨_, rfl, ?_⟩; replace HO_179 := Aside0.mk (Kd.R_below (by (with_reducible repeat (first | apply Kd.R_alloc | apply Kd.R_drewN | apply Kd.R_drew)); exact (Kd.R_mono (Kd.R_far (p := ⟨gb4, 2, none⟩) (Kd.R_far (p := ⟨gb4, 1, none⟩) (Kd.R_far (p := ⟨gb4, 0, none⟩) (Kd.R_mono HO_179.out (fun k_ hk => (⟨hk, hk.2⟩ : _ ∧ k_ ≠ gb4))) (fun _ hk => hk.2) (.int .i64 ((rd_T28 t765 x181_3).f0))) (fun _ hk => hk.2) (.int .i64 ((rd_T28 t765 x181_3).f1))) (fun _ hk => hk.2) (.int .i64 ((rd_T28 t765 x181_3).f2))) (fun _ h_ => h_.1))) hb); replace HO_770000 := Aside0.mk (Kd.R_below (by (with_reducible repeat (first | apply Kd.R_alloc | apply Kd.R_drewN | apply Kd.R_drew)); exact (Kd.R_mono (Kd.R_far (p := ⟨gb4, 2, none⟩) (Kd.R_far (p := ⟨gb4, 1, none⟩) (Kd.R_far (p := ⟨gb4, 0, none⟩) (Kd.R_mono HO_770000.out (fun k_ hk => (⟨hk, hk.2⟩ : _ ∧ k_ ≠ gb4))) (fun _ hk => hk.2) (.int .i64 ((rd_T28 t765 x181_3).f0))) (fun _ hk => hk.2) (.int .i64 ((rd_T28 t765 x181_3).f1))) (fun _ hk => hk.2) (.int .i64 ((rd_T28 t765 x181_3).f2))) (fun _ h_ => h_.1))) hb); replace BK1 := kbt (cs' := #[.int .i64 t760, .int .i64 t761]) BK1 hb; replace BK2 := kbt (cs' := #[.slice (some ad787) t765.length co14]) BK2 hb; replace BK4 := kbt (cs' := #[.int .i64 ((rd_T28 t765 x181_3).f0), .int .i64 ((rd_T28 t765 x181_3).f1), .int .i64 ((rd_T28 t765 x181_3).f2)]) BK4 hb; replace HB := kw HB hb; (try clear hb); (try clear hk)))
        go_ret
        exact ⟨eqR, bw HB⟩
       replace H := iteB H; rcases H with ⟨rfl, H⟩ | ⟨rfl, H⟩
       ·
        have H' := Aside0.mk H
        clear H
        have p787 : 0 ≤ (x181_3 : Int) := of_decide_eq_true (by first | (with_reducible assumption) | assumption)
        have q787 : x181_3 < (t765.length : Int) := of_decide_eq_true (by first | (with_reducible assumption) | assumption)
        obtain ⟨ad787, e787, hx787_0, hx787_1, hx787_2⟩ := at_T28 (Kd.R_reads' HO_179.out).2.2 x181_3 p787 q787
        cases e787
        replace p787 := eq_true p787
        replace q787 := eq_true q787
        go_wp2_with (first | ((with_reducible refine gate_dst (N := 23) rfl ?_); (try (refine gate_guard (by rfl) ?_; dsimp only)); refine boxK HB (N := 23) (cs := #[.int .i64 0, .int .i64 0, .int .i64 0]) (t := 28) (h := ?_); clear HB; intro gb4 hg w144 BK4 GW4 GE4 HB hb; replace HO_179 := Aside0.mk (Kd.R_below (Kd.R_elderB (ro HO_179) gb4 (Nat.le_of_eq hg.symm)) hb); replace HO_770000 := Aside0.mk (Kd.R_below (Kd.R_elderB (ro HO_770000) gb4 (Nat.le_of_eq hg.symm)) hb); obtain ⟨NB1_4, NB4_1, NB2_4, NB4_2⟩ := nv2 hg BK1 BK2; refine mv2 hb BK1 BK2 ?_; clear BK1 BK2; intro BK1 BK2; clear hb hg; have hnb145 := up2 NB4_1 NB4_2; obtain ⟨hcz147_0, hcz147_1, hcz147_2, hfz147_0, hfz147_1, hfz147_2⟩ := kc3 BK4; have hnb148 := up1 NB1_2; obtain ⟨hcz149_0, hcz149_1, hfz149_0, hfz149_1⟩ := kc2 BK1) | ((with_reducible refine gate_callee (f := 9) rfl ?_); refine goK (some 188) Try.func9 #[.agg #[.int .i64 ((rd_T28 t765 x181_3).f0), .int .i64 ((rd_T28 t765 x181_3).f1), .int .i64 ((rd_T28 t765 x181_3).f2)], .agg #[.int .i64 t760, .int .i64 t761]] ?_; (with_reducible refine (impl_DoesFit.calls ((rd_T28 t765 x181_3).f0) ((rd_T28 t765 x181_3).f1) ((rd_T28 t765 x181_3).f2) t760 t761 true true _ A141.out).mono ?_); rintro e w150 ⟨rfl, hb⟩; refine ⟨_, rfl, ?_⟩; replace HO_179 := Aside0.mk (Kd.R_below (by (with_reducible repeat (first | apply Kd.R_alloc | apply Kd.R_drewN | apply Kd.R_drew)); exact (Kd.R_mono (Kd.R_far (p := ⟨gb4, 2, none⟩) (Kd.R_far (p := ⟨gb4, 1, none⟩) (Kd.R_far (p := ⟨gb4, 0, none⟩) (Kd.R_mono HO_179.out (fun k_ hk => (⟨hk, hk.2⟩ : _ ∧ k_ ≠ gb4))) (fun _ hk => hk.2) (.int .i64 ((rd_T28 t765 x181_3).f0))) (fun _ hk => hk.2) (.int .i64 ((rd_T28 t765 x181_3).f1))) (fun _ hk => hk.2) (.int .i64 ((rd_T28 t765 x181_3).f2))) (fun _ h_ => h_.1))) hb); replace HO_770000 := Aside0.mk (Kd.R_below (by (with_reducible repeat (first | apply Kd.R_alloc | apply Kd.R_drewN | apply Kd.R_drew)); exact (Kd.R_mono (Kd.R_far (p := ⟨gb4, 2, none⟩) (Kd.R_far (p := ⟨gb4, 1, none⟩) (Kd.R_far (p := ⟨gb4, 0, none⟩) (Kd.R_mono HO_770000.out (fun k_ hk => (⟨hk, hk.2⟩ : _ ∧ k_ ≠ gb4))) (fun _ hk => hk.2) (.int .i64 ((rd_T28 t765 x181_3).f0))) (fun _ hk => hk.2) (.int .i64 ((rd_T28 t765 x181_3).f1))) (fun _ hk => hk.2) (.int .i64 ((rd_T28 t765 x181_3).f2))) (fun _ h_ => h_.1))) hb); replace BK1 := kbt (cs' := #[.int .i64 t760, .int .i64 t761]) BK1 hb; replace BK2 := kbt (cs' := #[.slice (some ad787) t765.length co14]) BK2 hb; replace BK4 := kbt (cs' := #[.int .i64 ((rd_T28 t765 x181_3).f0), .int .i64 ((rd_T28 t765 x181_3).f1), .int .i64 ((rd_T28 t765 x181_3).f2)]) BK4 hb; replace HB := kw HB hb; (try clear hb); (try clear hk)))
        go_roundg k3
        case measure => have := HJ7.out; have := HJ38.out; have := HK3.out; omega
        case rel => exact ⟨(wrap64 (x181_3 + 1)), (by first | rfl | (simp; done) | (simp [*]; done)), H', ⟨by have := HJ7.out; have := HJ38.out; have := HK3.out; omega⟩, ⟨by (with_reducible repeat (first | apply Kd.R_alloc | apply Kd.R_drewN | apply Kd.R_drew)); exact Kd.R_mono HO_179.out (fun _ hk => trivial)⟩, ⟨by (with_reducible repeat (first | apply Kd.R_alloc | apply Kd.R_drewN | apply Kd.R_drew)); exact Kd.R_mono HO_770000.out (fun _ hk => trivial)⟩, ⟨bk BK1⟩, ⟨bk BK2⟩, ⟨bw HB⟩⟩
       obtain rfl := Option.some.inj H
       have p787 : 0 ≤ (x181_3 : Int) := of_decide_eq_true (by first | (with_reducible assumption) | assumption)
       have q787 : x181_3 < (t765.length : Int) := of_decide_eq_true (by first | (with_reducible assumption) | assumption)
       obtain ⟨ad787, e787, hx787_0, hx787_1, hx787_2⟩ := at_T28 (Kd.R_reads' HO_179.out).2.2 x181_3 p787 q787
       cases e787
       replace p787 := eq_true p787
       replace q787 := eq_true q787
       go_wp2_with (first | ((with_reducible refine gate_dst (N := 23) rfl ?_); (try (refine gate_guard (by rfl) ?_; dsimp only)); refine boxK HB (N := 23) (cs := #[.int .i64 0, .int .i64 0, .int .i64 0]) (t := 28) (h := ?_); clear HB; intro gb4 hg w151 BK4 GW4 GE4 HB hb; replace HO_179 := Aside0.mk (Kd.R_below (Kd.R_elderB (ro HO_179) gb4 (Nat.le_of_eq hg.symm)) hb); replace HO_770000 := Aside0.mk (Kd.R_below (Kd.R_elderB (ro HO_770000) gb4 (Nat.le_of_eq hg.symm)) hb); obtain ⟨NB1_4, NB4_1, NB2_4, NB4_2⟩ := nv2 hg BK1 BK2; refine mv2 hb BK1 BK2 ?_; clear BK1 BK2; intro BK1 BK2; clear hb hg; have hnb152 := up2 NB4_1 NB4_2; obtain ⟨hcz154_0, hcz154_1, hcz154_2, hfz154_0, hfz154_1, hfz154_2⟩ := kc3 BK4; have hnb155 := up1 NB1_2; obtain ⟨hcz156_0, hcz156_1, hfz156_0, hfz156_1⟩ := kc2 BK1) | ((with_reducible refine gate_callee (f := 9) rfl ?_); refine goK (some 188) Try.func9 #[.agg #[.int .i64 ((rd_T28 t765 x181_3).f0), .int .i64 ((rd_T28 t765 x181_3).f1), .int .i64 ((rd_T28 t765 x181_3).f2)], .agg #[.int .i64 t760, .int .i64 t761]] ?_; (with_reducible refine (impl_DoesFit.calls ((rd_T28 t765 x181_3).f0) ((rd_T28 t765 x181_3).f1) ((rd_T28 t765 x181_3).f2) t760 t761 false true _ A141.out).mono ?_); rintro e w157 ⟨rfl, hb⟩; refine ⟨_, rfl, ?_⟩; replace HO_179 := Aside0.mk (Kd.R_below (by (with_reducible repeat (first | apply Kd.R_alloc | apply Kd.R_drewN | apply Kd.R_drew)); exact (Kd.R_mono (Kd.R_far (p := ⟨gb4, 2, none⟩) (Kd.R_far (p := ⟨gb4, 1, none⟩) (Kd.R_far (p := ⟨gb4, 0, none⟩) (Kd.R_mono HO_179.out (fun k_ hk => (⟨hk, hk.2⟩ : _ ∧ k_ ≠ gb4))) (fun _ hk => hk.2) (.int .i64 ((rd_T28 t765 x181_3).f0))) (fun _ hk => hk.2) (.int .i64 ((rd_T28 t765 x181_3).f1))) (fun _ hk => hk.2) (.int .i64 ((rd_T28 t765 x181_3).f2))) (fun _ h_ => h_.1))) hb); replace HO_770000 := Aside0.mk (Kd.R_below (by (with_reducible repeat (first | apply Kd.R_alloc | apply Kd.R_drewN | apply Kd.R_drew)); exact (Kd.R_mono (Kd.R_far (p := ⟨gb4, 2, none⟩) (Kd.R_far (p := ⟨gb4, 1, none⟩) (Kd.R_far (p := ⟨gb4, 0, none⟩) (Kd.R_mono HO_770000.out (fun k_ hk => (⟨hk, hk.2⟩ : _ ∧ k_ ≠ gb4))) (fun _ hk => hk.2) (.int .i64 ((rd_T28 t765 x181_3).f0))) (fun _ hk => hk.2) (.int .i64 ((rd_T28 t765 x181_3).f1))) (fun _ hk => hk.2) (.int .i64 ((rd_T28 t765 x181_3).f2))) (fun _ h_ => h_.1))) hb); replace BK1 := kbt (cs' := #[.int .i64 t760, .int .i64 t761]) BK1 hb; replace BK2 := kbt (cs' := #[.slice (some ad787) t765.length co14]) BK2 hb; replace BK4 := kbt (cs' := #[.int .i64 ((rd_T28 t765 x181_3).f0), .int .i64 ((rd_T28 t765 x181_3).f1), .int .i64 ((rd_T28 t765 x181_3).f2)]) BK4 hb; replace HB := kw HB hb; (try clear hb); (try clear hk)))
       go_ret
       exact ⟨eqR, bw HB⟩
  case rest =>
   clear HC32
   try clear c1
   try clear hcz11_0
   try clear hcz11_1
   try clear hcz16_0
   try clear hcz17_0
   try clear hcz17_1
   try clear hcz23_0
   try clear hfz11_0
   try clear hfz11_1
   try clear hfz16_0
   try clear hfz17_0
   try clear hfz17_1
   try clear hfz23_0
   obtain ⟨kq, HA, HJ31, HB⟩ := hcut
   exact laws_FnSnailsHidden.r2 k A0 c0 l0 A1 c1 l1 r w HR1 HC1 t762 t763 t768 t773 nd gb1 gb2 gb3 u62 u63 u64 u65 u66 u67 u68 u69 u70 u71 u72 u73 u74 u75 u76 u77 u78 u79 u80 u81 u82 u83 u84 u85 u86 u87 u88 u89 u90 u91 u92 u93 u94 kj7 HJ7 _ rfl _ (by assumption) wc u4 u12 u13 u14 u15 u16 u17 u18 u19 u20 u21 u23 u24 u25 u95 u96 u97 u98 u99 u100 u101 u102 u103 u104 u105 u106 u107 u108 u109 u110 u111 u112 u113 u114 u115 u116 u117 u118 u119 u120 u121 u122 u123 u124 u125 u126 u127 u128 u129 u130 u131 u132 u133 u134 u135 u136 u137 u138 u139 u140 u141 u142 u143 u144 u145 u146 u147 u148 u149 u150 u151 u152 u153 u154 u155 u156 u157 u158 u159 u160 u161 u162 u163 u164 u165 u166 u167 u168 u169 u170 u171 u172 u173 u174 u175 u176 u177 u178 u179 u180 u181 u182 u183 u184 u185 u186 u187 u188 u189 u190 u191 u192 u193 u194 u195 u196 u197 kq HA HJ31 HB

end Go.Proofs.Ytlpjooijkeadbaa.PH
