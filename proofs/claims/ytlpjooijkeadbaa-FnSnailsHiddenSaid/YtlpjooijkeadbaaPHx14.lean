-- Written by a program of our own (wip/tools/xprint.py) for this claim; Lean checks it.
import Derived.Test.YtlpjooijkeadbaaPHx0
import Derived.Test.YtlpjooijkeadbaaPHx4
import Derived.Test.YtlpjooijkeadbaaPHx12
import Derived.Test.YtlpjooijkeadbaaPHx13
namespace Go.Proofs.Ytlpjooijkeadbaa.PH
open Go.RowKit Go.Proofs.YtlpjooijkeadbaaK Go.Proofs.YtlpjooijkeadbaaW.PrintWords Go.Proofs.YtlpjooijkeadbaaW.PrintLast Go.Proofs.YtlpjooijkeadbaaW.PrintMore
attribute [local go_sem] max2_int min2_int max_two min_two max_three min_three max_four min_four   -- for this text's walks alone
set_option linter.unusedVariables false
set_option linter.unusedSimpArgs false

/-! ### spec_DrawHarderPuzzle: function 27 -/
def spec_DrawHarderPuzzle.f (k : Nat) (l0 : List Int) : Option ((List (S28))) := (spec_l1Cur_one.f l0 0 0 4).bind fun bt632 => (if bt632.1 = true then ((spec_l1Cur_puzzle.f k l0 bt632.2.1 bt632.2.2).bind fun bt635 => (some bt635.1)) else ((spec_l1Cur_hidden.f l0 bt632.2.1 bt632.2.2).bind fun bt640 => ((spec_l1Cur_pick.f l0 bt640.2.2.1 bt640.2.2.2 4).bind fun bt645 => ((spec_l1Cur_pick.f l0 bt645.2.1 bt645.2.2 10000).bind fun bt648 => ((spec_MakePuzzle.f k bt640.1 bt640.2.1 bt645.1 bt648.1).bind fun bt651 => ((spec_pzOf.f k 2 0 bt640.1 bt640.2.1).bind fun bt656 => ((spec_pzOf.f k 4 0 bt640.1 bt640.2.1).bind fun bt659 => ((some (([(⟨bt656.1, bt656.2.1, bt656.2.2⟩ : S28), (⟨bt659.1, bt659.2.1, bt659.2.2⟩ : S28)] : List (S28)) : List (S28))).bind fun y662 => (if bt651.1.length + y662.length < 5864062014805 then (some (bt651.1 ++ y662)) else (none))))))))))
def spec_DrawHarderPuzzle.T5 : Bool × List (List Nat × List Nat) := (true, [([], []), ([], []), ([1], [1]), ([], []), ([3, 2], [3]), ([0, 2, 4, 4], [0, 2, 4]), ([5], [5]), ([6], [6]), ([6], [6]), ([], []), ([9, 7, 5, 0, 1, 2, 3, 4, 5, 6, 7, 9], [7, 9]), ([8, 10, 0, 1, 2, 3, 4, 5, 6, 7, 8, 9, 10], [8])])
def spec_DrawHarderPuzzle.B5 : List Nat := [0, 0, 2, 0, 14, 31, 63, 127, 127, 0, 767, 2047]
theorem spec_DrawHarderPuzzle.tab5 : rtab .any (opsOf Try.f27 5) = spec_DrawHarderPuzzle.T5 := by kernel_rfl
theorem spec_DrawHarderPuzzle.bits5 : waitsOk spec_DrawHarderPuzzle.T5.2 spec_DrawHarderPuzzle.B5 = true := by kernel_rfl
def spec_DrawHarderPuzzle.T6 : Bool × List (List Nat × List Nat) := (true, [([], []), ([0], [0]), ([], []), ([2], [2]), ([], []), ([4, 3], [4]), ([3, 5], [3, 5]), ([1, 6, 5], [1, 6]), ([0, 1, 2, 3, 4, 5, 6, 7], []), ([8, 7, 7, 0, 1, 2, 3, 4, 5, 6, 7], [7, 8])])
def spec_DrawHarderPuzzle.B6 : List Nat := [0, 1, 0, 4, 0, 28, 60, 127, 255, 511]
theorem spec_DrawHarderPuzzle.tab6 : rtab .any (opsOf Try.f27 6) = spec_DrawHarderPuzzle.T6 := by kernel_rfl
theorem spec_DrawHarderPuzzle.bits6 : waitsOk spec_DrawHarderPuzzle.T6.2 spec_DrawHarderPuzzle.B6 = true := by kernel_rfl
set_option maxHeartbeats 8000000 in
set_option maxRecDepth 100000 in
theorem spec_DrawHarderPuzzle.calls (k : Nat) (A0 : Option Addr) (c0 : Nat) (l0 : List Int) (r : List (S28)) (w : World) (hr0 : Kd.C (Kd.int .u8) w A0 l0.length l0) (hc0 : l0.length ≤ c0) (h : spec_DrawHarderPuzzle.f k l0 = some r) :
    Calls Try.prog 27 #[.slice A0 l0.length c0] w fun e w' => ∃ v0_ : Value, e = .returned (.agg #[v0_]) ∧ Kd.R k28 28 w' w.heap.size (fun _ => True) v0_ r ∧ Below w.heap.size w w' := by
 have hu26 := Try.underlying26
 have hu81 := Try.underlying81
 have hu23 := Try.underlying23
 have HR0 := Aside0.mk hr0
 have HC0 := Aside0.mk hc0
 clear hr0 hc0
 have HB := Aside0.mk (Below.refl w.heap.size w)
 have H : ((spec_l1Cur_one.f l0 0 0 4).bind fun bt632 => (if bt632.1 = true then ((spec_l1Cur_puzzle.f k l0 bt632.2.1 bt632.2.2).bind fun bt635 => (some bt635.1)) else ((spec_l1Cur_hidden.f l0 bt632.2.1 bt632.2.2).bind fun bt640 => ((spec_l1Cur_pick.f l0 bt640.2.2.1 bt640.2.2.2 4).bind fun bt645 => ((spec_l1Cur_pick.f l0 bt645.2.1 bt645.2.2 10000).bind fun bt648 => ((spec_MakePuzzle.f k bt640.1 bt640.2.1 bt645.1 bt648.1).bind fun bt651 => ((spec_pzOf.f k 2 0 bt640.1 bt640.2.1).bind fun bt656 => ((spec_pzOf.f k 4 0 bt640.1 bt640.2.1).bind fun bt659 => ((some (([(⟨bt656.1, bt656.2.1, bt656.2.2⟩ : S28), (⟨bt659.1, bt659.2.1, bt659.2.2⟩ : S28)] : List (S28)) : List (S28))).bind fun y662 => (if bt651.1.length + y662.length < 5864062014805 then (some (bt651.1 ++ y662)) else (none))))))))))) = some r := h
 clear h
 replace H := bindS H; obtain ⟨⟨t632, t633, t634⟩, A2, H⟩ := H
 replace H := iteB H; rcases H with ⟨rfl, H⟩ | ⟨rfl, H⟩
 ·
  replace H := bindS H; obtain ⟨⟨t635, t638, t639⟩, A4, H⟩ := H
  obtain rfl := Option.some.inj H
  go_enter Try.func27, Try.ntmps27
  go_wp2_with (first | ((with_reducible refine gate_dst (N := 2) rfl ?_); refine boxK HB (N := 2) (cs := #[.slice none 0 0]) (t := 26) (h := ?_); clear HB; intro gb1 hg w5 BK1 GW1 GE1 HB hb; clear hb hg) | ((with_reducible refine gate_dst (N := 9) rfl ?_); refine boxP (N := 9) (cs := #[.slice A0 l0.length c0, .int .i64 0, .int .u64 0]) (t := 81) (h := ?_); intro gb2 hg w6 hbox hb; obtain ⟨NB1_2, NB2_1⟩ := nv1 hg BK1; replace BK1 := kb BK1 hb; have HI631 := Aside0.mk ((⟨_, _, hbox, (by rw [hg]; exact (below_size (bw HB))), HR0.out⟩ : IsS81 w w6 gb2 l0 0 0)); replace HB := kw HB hb; clear hb hbox hg) | ((with_reducible refine gate_callee (f := 54) rfl ?_); refine goK (some 11) Try.func54 #[.pointer (some ⟨gb2, 0, none⟩), .int .i64 4] ?_; (with_reducible refine (spec_l1Cur_one.calls gb2 l0 0 0 4 true t633 t634 w _ ?side1 ?side2 A2.out).mono ?_); (case side1 => exact IsS81.w HI631); (case side2 => exact IsS81.bw HB HI631); rintro e w7 ⟨rfl, hi, hb, hk⟩; refine ⟨_, rfl, ?_⟩; replace BK1 := kbk BK1 NB1_2 hk; replace HB := Aside0.mk (hb); replace HI631 := Aside0.mk (hi); (try clear hb); (try clear hk); (try clear hi)) | ((with_reducible refine gate_callee (f := 59) rfl ?_); refine goK (some 13) Try.func59 #[.pointer (some ⟨gb2, 0, none⟩)] ?_; (with_reducible refine (spec_l1Cur_puzzle.calls k gb2 l0 t633 t634 t635 t638 t639 w _ ?side1 ?side2 A4.out).mono ?_); (case side1 => exact IsS81.w HI631); (case side2 => exact IsS81.bw HB HI631); rintro e w8 ⟨v636, rfl, ho0, hi, hb, hk⟩; refine ⟨_, rfl, ?_⟩; replace BK1 := kbk BK1 NB1_2 hk; have HO637 := Aside0.mk (Kd.R_lower ho0 (below_size (IsS81.bw HB HI631))); replace HB := Aside0.mk (hb); replace HI631 := Aside0.mk (hi); (try clear hb); (try clear hk); (try clear hi); (try clear ho0); obtain ⟨Ao9, co9, eo9⟩ := Kd.R_slice HO637.out; subst eo9; have hnb10 := up1 NB1_2; obtain ⟨hcz11_0, hfz11_0⟩ := kc1 BK1))
  refine bodyPost_ret (results_cell_row rfl _ _ gb1 26 #[.slice Ao9 t635.length co9] (0, 0) _ rfl (bt BK1) Try.underlying26 rfl (by kernel_rfl)) rfl ?_
  exact ⟨_, eqR, by (with_reducible repeat (first | apply Kd.R_alloc | apply Kd.R_drewN | apply Kd.R_drew)); exact Kd.R_mono (Kd.R_far (p := ⟨gb1, 0, none⟩) (Kd.R_types HO637.out BK1.out (by decide)) (fun _ hk => hk.2) (.slice Ao9 t635.length co9)) (fun _ hk => trivial), (IsS81.bw HB HI631)⟩
 replace H := bindS H; obtain ⟨⟨t640, t641, t642, t643⟩, A12, H⟩ := H
 replace H := bindS H; obtain ⟨⟨t645, t646, t647⟩, A13, H⟩ := H
 replace H := bindS H; obtain ⟨⟨t648, t649, t650⟩, A14, H⟩ := H
 replace H := bindS H; obtain ⟨⟨t651, t654⟩, A15, H⟩ := H
 replace H := bindS H; obtain ⟨⟨t656, t657, t658⟩, A16, H⟩ := H
 replace H := bindS H; obtain ⟨⟨t659, t660, t661⟩, A17, H⟩ := H
 obtain ⟨y662, hy662⟩ : ∃ y_ : List (S28), y_ = (([(⟨t656, t657, t658⟩ : S28), (⟨t659, t660, t661⟩ : S28)] : List (S28))) := ⟨_, rfl⟩
 replace H : (if t651.length + y662.length < 5864062014805 then (some (t651 ++ y662)) else (none)) = some r := by first | (rw [hy662]; with_reducible exact H) | (have H2_ := (Option.bind_some _ _).symm.trans H; first | (rw [hy662]; with_reducible exact H2_) | with_reducible exact H2_) | with_reducible exact H | (rw [hy662]; exact H) | exact H
 have Ny662 := Aside0.mk hy662
 clear hy662
 replace H := iteS H; obtain ⟨c18, H⟩ := H
 have LMc18 := Aside0.mk c18
 clear c18
 obtain ⟨y665, hy665⟩ : ∃ y_ : List (S28), y_ = (t651 ++ y662) := ⟨_, rfl⟩
 replace H : (some y665) = some r := by first | (rw [hy665]; with_reducible exact H) | (have H2_ := (Option.bind_some _ _).symm.trans H; first | (rw [hy665]; with_reducible exact H2_) | with_reducible exact H2_) | with_reducible exact H | (rw [hy665]; exact H) | exact H
 have Ny665 := Aside0.mk hy665
 clear hy665
 obtain rfl := Option.some.inj H
 go_enter Try.func27, Try.ntmps27
 try go_wp2_with (first | ((with_reducible refine gate_dst (N := 2) rfl ?_); refine boxK HB (N := 2) (cs := #[.slice none 0 0]) (t := 26) (h := ?_); clear HB; intro gb1 hg w19 BK1 GW1 GE1 HB hb; clear hb hg) | ((with_reducible refine gate_dst (N := 9) rfl ?_); refine boxP (N := 9) (cs := #[.slice A0 l0.length c0, .int .i64 0, .int .u64 0]) (t := 81) (h := ?_); intro gb2 hg w20 hbox hb; obtain ⟨NB1_2, NB2_1⟩ := nv1 hg BK1; replace BK1 := kb BK1 hb; have HI631 := Aside0.mk ((⟨_, _, hbox, (by rw [hg]; exact (below_size (bw HB))), HR0.out⟩ : IsS81 w w20 gb2 l0 0 0)); replace HB := kw HB hb; clear hb hbox hg) | ((with_reducible refine gate_callee (f := 54) rfl ?_); refine goK (some 11) Try.func54 #[.pointer (some ⟨gb2, 0, none⟩), .int .i64 4] ?_; (with_reducible refine (spec_l1Cur_one.calls gb2 l0 0 0 4 false t633 t634 w _ ?side1 ?side2 A2.out).mono ?_); (case side1 => exact IsS81.w HI631); (case side2 => exact IsS81.bw HB HI631); rintro e w21 ⟨rfl, hi, hb, hk⟩; refine ⟨_, rfl, ?_⟩; replace BK1 := kbk BK1 NB1_2 hk; replace HB := Aside0.mk (hb); replace HI631 := Aside0.mk (hi); (try clear hb); (try clear hk); (try clear hi)) | ((with_reducible refine gate_callee (f := 57) rfl ?_); refine goK (some 15) Try.func57 #[.pointer (some ⟨gb2, 0, none⟩)] ?_; (with_reducible refine (spec_l1Cur_hidden.calls gb2 l0 t633 t634 t640 t641 t642 t643 w _ ?side1 ?side2 A12.out).mono ?_); (case side1 => exact IsS81.w HI631); (case side2 => exact IsS81.bw HB HI631); rintro e w22 ⟨rfl, hi, hb, hk⟩; refine ⟨_, rfl, ?_⟩; replace BK1 := kbk BK1 NB1_2 hk; replace HB := Aside0.mk (hb); replace HI631 := Aside0.mk (hi); (try clear hb); (try clear hk); (try clear hi)) | ((with_reducible refine gate_dst (N := 4) rfl ?_); refine boxP (N := 4) (cs := #[.int .i64 0, .int .i64 0]) (t := 23) (h := ?_); intro gb3 hg w23 hbox hb; have BK3 := Aside0.mk (hbox); have GW3 := Aside0.mk ((by rw [hg]; exact (below_size (IsS81.bw HB HI631)) : w.heap.size ≤ gb3)); have GE3 := Aside0.mk ((by rw [hg]; exact (below_size (IsS81.bw HB HI631)) : w.heap.size ≤ gb3)); replace HB := IsS81.kbw HB HI631 hb; obtain ⟨NB1_3, NB3_1⟩ := nv1 hg BK1; replace BK1 := kb BK1 hb; have NB2_3 := IsS81.nl HI631 hg; have NB3_2 := ns (IsS81.nl HI631 hg); replace HI631 := IsS81.kb HI631 hb; clear hb hbox hg; have hnb24 := up2 NB3_1 NB3_2; obtain ⟨hcz26_0, hcz26_1, hfz26_0, hfz26_1⟩ := kc2 BK3))
 have n0_ : Aside0 (((w23.setCell ⟨gb3, 0, none⟩ (.int .i64 t640)).setCell ⟨gb3, 1, none⟩ (.int .i64 t641)).heap[gb1]? = some (.cells #[.slice none 0 0] 26 (0, 0))) := ⟨bf2 BK1 NB1_3 NB1_3⟩
 have n1_ : Aside0 (((w23.setCell ⟨gb3, 0, none⟩ (.int .i64 t640)).setCell ⟨gb3, 1, none⟩ (.int .i64 t641)).heap[gb3]? = some (.cells #[.int .i64 t640, .int .i64 t641] 23 (0, 0))) := ⟨bt BK3⟩
 have n2_ : Aside0 (IsS81 w ((w23.setCell ⟨gb3, 0, none⟩ (.int .i64 t640)).setCell ⟨gb3, 1, none⟩ (.int .i64 t641)) gb2 l0 t642 t643) := ⟨(IsS81.w HI631)⟩
 have n3_ : Aside0 (Below w.heap.size w ((w23.setCell ⟨gb3, 0, none⟩ (.int .i64 t640)).setCell ⟨gb3, 1, none⟩ (.int .i64 t641))) := ⟨(IsS81.bw HB HI631)⟩
 (try clear BK1)
 (try clear BK3)
 (try clear HI631)
 (try clear HB)
 generalize ((w23.setCell ⟨gb3, 0, none⟩ (.int .i64 t640)).setCell ⟨gb3, 1, none⟩ (.int .i64 t641)) = w27 at n0_ n1_ n2_ n3_ ⊢
 have BK1 := n0_
 have BK3 := n1_
 have HI631 := n2_
 have HB := n3_
 clear n0_ n1_ n2_ n3_
 refine md2 BK1 BK3 ?_
 clear BK1 BK3
 intro BK1 BK3
 replace HI631 := Aside0.mk (IsS81.drew HI631.out)
 replace HB := Aside0.mk (below_drew1 HB.out)
 refine startK 12 (S := fun w' => w'.cell? ⟨gb3, 0, none⟩ = some (.int .i64 t640) ∧ w'.cell? ⟨gb3, 1, none⟩ = some (.int .i64 t641)) (ds := []) spec_DrawHarderPuzzle.tab5 spec_DrawHarderPuzzle.bits5 (hS := ⟨bc BK3 0, bc BK3 1⟩) (h := fun hHeld HT_ HW_ => ?_)
 generalize w27.drew = w28 at BK1 BK3 HI631 HB hHeld ⊢
 refine pureK HT_ 1 (some 18) ?_
 refine pureK HT_ 3 (some 20) ?_
 refine takeK HT_ HW_ hHeld 0 (some 17) ?_
 refine join_ (σ := Value × Nat) 2 #[true, true, true, true, true, true, true, true, true, true, false, false] (fun s_ => [(19, .int .i64 t645), (21, .int .i64 t648), (22, .tuple #[.agg #[s_.1], .bool t654]), (5, .pointer (some ⟨s_.2, 0, none⟩)), (16, .tuple #[.agg #[s_.1], .bool t654]), (23, .agg #[s_.1]), (24, .bool t654)]) (fun s_ w' => (w'.cell? ⟨gb3, 0, none⟩ = some (.int .i64 t640) ∧ w'.cell? ⟨gb3, 1, none⟩ = some (.int .i64 t641)) ∧ (Kd.R k28 28 w' w.heap.size (fun _ => True) s_.1 t651) ∧ (w'.heap[gb1]? = some (.cells #[.slice none 0 0] 26 (0, 0))) ∧ (w'.heap[gb3]? = some (.cells #[.int .i64 t640, .int .i64 t641] 23 (0, 0))) ∧ (w'.heap[s_.2]? = some (.cells #[.slice none 0 0] 26 (0, 0))) ∧ (w.heap.size ≤ s_.2) ∧ (w.heap.size ≤ s_.2) ∧ (gb2 ≠ s_.2) ∧ (s_.2 ≠ gb2) ∧ (gb1 ≠ s_.2) ∧ (s_.2 ≠ gb1) ∧ (gb3 ≠ s_.2) ∧ (s_.2 ≠ gb3) ∧ (IsS81 w w' gb2 l0 t649 t650) ∧ (Below w.heap.size w w')) ?_ ?_
 rotate_left
 ·
  intro hCont
  refine two_ (i := 2) (j := 9) (Ni := some 19) (Nj := some 5) #[true, true, true, true, false, false, false, false, false, false, false, false] #[true, true, false, true, false, false, false, false, false, true, false, false] rfl rfl rfl rfl (two_of HT_.out (by kernel_rfl)) (by decide) (by decide) (fun K hK => ?_) (fun K hK => ?_)
  rotate_left
  ·
   skip
   refine box_step ?hg (N := 5) ?hd (cs := #[.slice none 0 0]) (t := 26) ?hr ?_; (case hd => rfl); (case hg => rfl); (case hr => first | (go_simp; done) | (go_simp; rfl))
   intro gb4 hg w29 hbox hb
   have BK4 := Aside0.mk (hbox)
   have GW4 := Aside0.mk ((by rw [hg]; exact (below_size (IsS81.bw HB HI631)) : w.heap.size ≤ gb4))
   have GE4 := Aside0.mk ((by rw [hg]; exact (below_size (IsS81.bw HB HI631)) : w.heap.size ≤ gb4))
   replace HB := IsS81.kbw HB HI631 hb
   obtain ⟨NB1_4, NB4_1, NB3_4, NB4_3⟩ := nv2 hg BK1 BK3
   refine mv2 hb BK1 BK3 ?_
   clear BK1 BK3
   intro BK1 BK3
   have NB2_4 := IsS81.nl HI631 hg
   have NB4_2 := ns (IsS81.nl HI631 hg)
   replace HI631 := IsS81.kb HI631 hb
   clear hb hbox hg
   refine hK.out _ _ ⟨bc BK3 0, bc BK3 1⟩ (fun hHeld => ?_)
   clear hK K
   refine normK (N := some 5) (h := ?_)
   refine oneK HT_ 2 (some 19) (fun K hK => ?_)
   refine goes_ Try.func58 (by kernel_rfl) rfl #[.pointer (some ⟨gb2, 0, none⟩), .int .i64 4] (by rfl) rfl rfl argR ?_
   with_reducible refine (spec_l1Cur_pick.calls gb2 l0 t642 t643 4 t645 t646 t647 w _ ?side1 ?side2 A13.out).mono ?_
   (case side1 => exact IsS81.w HI631)
   (case side2 => exact IsS81.bw HB HI631)
   rintro e w30 ⟨rfl, hi, hb, hk⟩
   refine ⟨_, rfl, ?_⟩
   replace BK1 := kbk BK1 NB1_2 hk
   replace BK3 := kbk BK3 NB3_2 hk
   replace BK4 := kbk BK4 NB4_2 hk
   replace HB := Aside0.mk (hb)
   replace HI631 := Aside0.mk (hi)
   (try clear hb)
   (try clear hb2)
   (try clear hk)
   (try clear hi)
   refine hK.out _ _ ⟨bc BK3 0, bc BK3 1⟩ (fun hHeld => ?_)
   clear hK K
   refine normK (N := some 19) (h := ?_)
   refine oneK HT_ 4 (some 21) (fun K hK => ?_)
   refine goes_ Try.func58 (by kernel_rfl) rfl #[.pointer (some ⟨gb2, 0, none⟩), .int .i64 10000] (by rfl) rfl rfl argR ?_
   with_reducible refine (spec_l1Cur_pick.calls gb2 l0 t646 t647 10000 t648 t649 t650 w _ ?side1 ?side2 A14.out).mono ?_
   (case side1 => exact IsS81.w HI631)
   (case side2 => exact IsS81.bw HB HI631)
   rintro e w31 ⟨rfl, hi, hb, hk⟩
   refine ⟨_, rfl, ?_⟩
   replace BK1 := kbk BK1 NB1_2 hk
   replace BK3 := kbk BK3 NB3_2 hk
   replace BK4 := kbk BK4 NB4_2 hk
   replace HB := Aside0.mk (hb)
   replace HI631 := Aside0.mk (hi)
   (try clear hb)
   (try clear hb2)
   (try clear hk)
   (try clear hi)
   refine hK.out _ _ ⟨bc BK3 0, bc BK3 1⟩ (fun hHeld => ?_)
   clear hK K
   refine normK (N := some 21) (h := ?_)
   refine oneK HT_ 5 (some 22) (fun K hK => ?_)
   refine goes_ Try.func6 (by kernel_rfl) rfl #[.agg #[.int .i64 t640, .int .i64 t641], .int .i64 t645, .int .i64 t648] (by rfl) rfl rfl argR ?_
   with_reducible refine (spec_MakePuzzle.calls k t640 t641 t645 t648 t651 t654 _ A15.out).mono ?_
   rintro e w32 ⟨v652, rfl, ho0, hb⟩
   refine ⟨_, rfl, ?_⟩
   have HO653 := Aside0.mk (Kd.R_lower ho0 (below_size (IsS81.bw HB HI631)))
   refine mv3 hb BK1 BK3 BK4 ?_
   clear BK1 BK3 BK4
   intro BK1 BK3 BK4
   replace HB := IsS81.kbw HB HI631 hb
   replace HI631 := IsS81.kb HI631 hb
   (try clear hb)
   (try clear hb2)
   (try clear hk)
   (try clear hi)
   (try clear ho0)
   refine hK.out _ _ ⟨bc BK3 0, bc BK3 1⟩ (fun hHeld => ?_)
   clear hK K
   refine normK (N := some 22) (h := ?_)
   refine pureK HT_ 6 (some 16) ?_
   refine pureK HT_ 7 (some 23) ?_
   refine pureK HT_ 8 (some 24) ?_
   exact norm_ (by simp only [putAll, Act.put, List.setIfInBounds_toArray, List.set_cons_zero, List.set_cons_succ]) (hCont (v652, gb4) _ ⟨hHeld, (ro HO653), (bk BK1), (bk BK3), (bk BK4), GW4.out, GE4.out, NB2_4.out, NB4_2.out, NB1_4.out, NB4_1.out, NB3_4.out, NB4_3.out, (IsS81.w HI631), (IsS81.bw HB HI631)⟩)
  skip
  refine goes_ Try.func58 (by kernel_rfl) rfl #[.pointer (some ⟨gb2, 0, none⟩), .int .i64 4] (by rfl) rfl rfl argR ?_
  with_reducible refine (spec_l1Cur_pick.calls gb2 l0 t642 t643 4 t645 t646 t647 w _ ?side1 ?side2 A13.out).mono ?_
  (case side1 => exact IsS81.w HI631)
  (case side2 => exact IsS81.bw HB HI631)
  rintro e w29 ⟨rfl, hi, hb, hk⟩
  refine ⟨_, rfl, ?_⟩
  replace BK1 := kbk BK1 NB1_2 hk
  replace BK3 := kbk BK3 NB3_2 hk
  replace HB := Aside0.mk (hb)
  replace HI631 := Aside0.mk (hi)
  (try clear hb)
  (try clear hb2)
  (try clear hk)
  (try clear hi)
  refine hK.out _ _ ⟨bc BK3 0, bc BK3 1⟩ (fun hHeld => ?_)
  clear hK K
  refine normK (N := some 19) (h := ?_)
  refine two_ (i := 4) (j := 9) (Ni := some 21) (Nj := some 5) #[true, true, true, true, true, false, false, false, false, false, false, false] #[true, true, true, true, false, false, false, false, false, true, false, false] rfl rfl rfl rfl (two_of HT_.out (by kernel_rfl)) (by decide) (by decide) (fun K hK => ?_) (fun K hK => ?_)
  rotate_left
  ·
   skip
   refine box_step ?hg (N := 5) ?hd (cs := #[.slice none 0 0]) (t := 26) ?hr ?_; (case hd => rfl); (case hg => rfl); (case hr => first | (go_simp; done) | (go_simp; rfl))
   intro gb4 hg w30 hbox hb
   have BK4 := Aside0.mk (hbox)
   have GW4 := Aside0.mk ((by rw [hg]; exact (below_size (IsS81.bw HB HI631)) : w.heap.size ≤ gb4))
   have GE4 := Aside0.mk ((by rw [hg]; exact (below_size (IsS81.bw HB HI631)) : w.heap.size ≤ gb4))
   replace HB := IsS81.kbw HB HI631 hb
   obtain ⟨NB1_4, NB4_1, NB3_4, NB4_3⟩ := nv2 hg BK1 BK3
   refine mv2 hb BK1 BK3 ?_
   clear BK1 BK3
   intro BK1 BK3
   have NB2_4 := IsS81.nl HI631 hg
   have NB4_2 := ns (IsS81.nl HI631 hg)
   replace HI631 := IsS81.kb HI631 hb
   clear hb hbox hg
   refine hK.out _ _ ⟨bc BK3 0, bc BK3 1⟩ (fun hHeld => ?_)
   clear hK K
   refine normK (N := some 5) (h := ?_)
   refine oneK HT_ 4 (some 21) (fun K hK => ?_)
   refine goes_ Try.func58 (by kernel_rfl) rfl #[.pointer (some ⟨gb2, 0, none⟩), .int .i64 10000] (by rfl) rfl rfl argR ?_
   with_reducible refine (spec_l1Cur_pick.calls gb2 l0 t646 t647 10000 t648 t649 t650 w _ ?side1 ?side2 A14.out).mono ?_
   (case side1 => exact IsS81.w HI631)
   (case side2 => exact IsS81.bw HB HI631)
   rintro e w31 ⟨rfl, hi, hb, hk⟩
   refine ⟨_, rfl, ?_⟩
   replace BK1 := kbk BK1 NB1_2 hk
   replace BK3 := kbk BK3 NB3_2 hk
   replace BK4 := kbk BK4 NB4_2 hk
   replace HB := Aside0.mk (hb)
   replace HI631 := Aside0.mk (hi)
   (try clear hb)
   (try clear hb2)
   (try clear hk)
   (try clear hi)
   refine hK.out _ _ ⟨bc BK3 0, bc BK3 1⟩ (fun hHeld => ?_)
   clear hK K
   refine normK (N := some 21) (h := ?_)
   refine oneK HT_ 5 (some 22) (fun K hK => ?_)
   refine goes_ Try.func6 (by kernel_rfl) rfl #[.agg #[.int .i64 t640, .int .i64 t641], .int .i64 t645, .int .i64 t648] (by rfl) rfl rfl argR ?_
   with_reducible refine (spec_MakePuzzle.calls k t640 t641 t645 t648 t651 t654 _ A15.out).mono ?_
   rintro e w32 ⟨v652, rfl, ho0, hb⟩
   refine ⟨_, rfl, ?_⟩
   have HO653 := Aside0.mk (Kd.R_lower ho0 (below_size (IsS81.bw HB HI631)))
   refine mv3 hb BK1 BK3 BK4 ?_
   clear BK1 BK3 BK4
   intro BK1 BK3 BK4
   replace HB := IsS81.kbw HB HI631 hb
   replace HI631 := IsS81.kb HI631 hb
   (try clear hb)
   (try clear hb2)
   (try clear hk)
   (try clear hi)
   (try clear ho0)
   refine hK.out _ _ ⟨bc BK3 0, bc BK3 1⟩ (fun hHeld => ?_)
   clear hK K
   refine normK (N := some 22) (h := ?_)
   refine pureK HT_ 6 (some 16) ?_
   refine pureK HT_ 7 (some 23) ?_
   refine pureK HT_ 8 (some 24) ?_
   exact norm_ (by simp only [putAll, Act.put, List.setIfInBounds_toArray, List.set_cons_zero, List.set_cons_succ]) (hCont (v652, gb4) _ ⟨hHeld, (ro HO653), (bk BK1), (bk BK3), (bk BK4), GW4.out, GE4.out, NB2_4.out, NB4_2.out, NB1_4.out, NB4_1.out, NB3_4.out, NB4_3.out, (IsS81.w HI631), (IsS81.bw HB HI631)⟩)
  skip
  refine goes_ Try.func58 (by kernel_rfl) rfl #[.pointer (some ⟨gb2, 0, none⟩), .int .i64 10000] (by rfl) rfl rfl argR ?_
  with_reducible refine (spec_l1Cur_pick.calls gb2 l0 t646 t647 10000 t648 t649 t650 w _ ?side1 ?side2 A14.out).mono ?_
  (case side1 => exact IsS81.w HI631)
  (case side2 => exact IsS81.bw HB HI631)
  rintro e w30 ⟨rfl, hi, hb, hk⟩
  refine ⟨_, rfl, ?_⟩
  replace BK1 := kbk BK1 NB1_2 hk
  replace BK3 := kbk BK3 NB3_2 hk
  replace HB := Aside0.mk (hb)
  replace HI631 := Aside0.mk (hi)
  (try clear hb)
  (try clear hb2)
  (try clear hk)
  (try clear hi)
  refine hK.out _ _ ⟨bc BK3 0, bc BK3 1⟩ (fun hHeld => ?_)
  clear hK K
  refine normK (N := some 21) (h := ?_)
  refine two_ (i := 5) (j := 9) (Ni := some 22) (Nj := some 5) #[true, true, true, true, true, true, false, false, false, false, false, false] #[true, true, true, true, true, false, false, false, false, true, false, false] rfl rfl rfl rfl (two_of HT_.out (by kernel_rfl)) (by decide) (by decide) (fun K hK => ?_) (fun K hK => ?_)
  ·
   skip
   refine goes_ Try.func6 (by kernel_rfl) rfl #[.agg #[.int .i64 t640, .int .i64 t641], .int .i64 t645, .int .i64 t648] (by rfl) rfl rfl argR ?_
   with_reducible refine (spec_MakePuzzle.calls k t640 t641 t645 t648 t651 t654 _ A15.out).mono ?_
   rintro e w31 ⟨v652, rfl, ho0, hb⟩
   refine ⟨_, rfl, ?_⟩
   have HO653 := Aside0.mk (Kd.R_lower ho0 (below_size (IsS81.bw HB HI631)))
   refine mv2 hb BK1 BK3 ?_
   clear BK1 BK3
   intro BK1 BK3
   replace HB := IsS81.kbw HB HI631 hb
   replace HI631 := IsS81.kb HI631 hb
   (try clear hb)
   (try clear hb2)
   (try clear hk)
   (try clear hi)
   (try clear ho0)
   refine hK.out _ _ ⟨bc BK3 0, bc BK3 1⟩ (fun hHeld => ?_)
   clear hK K
   refine normK (N := some 22) (h := ?_)
   refine pureK HT_ 6 (some 16) ?_
   refine pureK HT_ 7 (some 23) ?_
   refine pureK HT_ 8 (some 24) ?_
   refine oneK HT_ 9 (some 5) (fun K hK => ?_)
   refine box_step ?hg (N := 5) ?hd (cs := #[.slice none 0 0]) (t := 26) ?hr ?_; (case hd => rfl); (case hg => rfl); (case hr => first | (go_simp; done) | (go_simp; rfl))
   intro gb4 hg w32 hbox hb
   replace HO653 := ko HO653 hb
   have BK4 := Aside0.mk (hbox)
   have GW4 := Aside0.mk ((by rw [hg]; exact (below_size (IsS81.bw HB HI631)) : w.heap.size ≤ gb4))
   have GE4 := Aside0.mk ((by rw [hg]; exact (below_size (IsS81.bw HB HI631)) : w.heap.size ≤ gb4))
   replace HB := IsS81.kbw HB HI631 hb
   obtain ⟨NB1_4, NB4_1, NB3_4, NB4_3⟩ := nv2 hg BK1 BK3
   refine mv2 hb BK1 BK3 ?_
   clear BK1 BK3
   intro BK1 BK3
   have NB2_4 := IsS81.nl HI631 hg
   have NB4_2 := ns (IsS81.nl HI631 hg)
   replace HI631 := IsS81.kb HI631 hb
   clear hb hbox hg
   refine hK.out _ _ ⟨bc BK3 0, bc BK3 1⟩ (fun hHeld => ?_)
   clear hK K
   refine normK (N := some 5) (h := ?_)
   exact norm_ (by simp only [putAll, Act.put, List.setIfInBounds_toArray, List.set_cons_zero, List.set_cons_succ]) (hCont (v652, gb4) _ ⟨hHeld, (ro HO653), (bk BK1), (bk BK3), (bk BK4), GW4.out, GE4.out, NB2_4.out, NB4_2.out, NB1_4.out, NB4_1.out, NB3_4.out, NB4_3.out, (IsS81.w HI631), (IsS81.bw HB HI631)⟩)
  skip
  refine box_step ?hg (N := 5) ?hd (cs := #[.slice none 0 0]) (t := 26) ?hr ?_; (case hd => rfl); (case hg => rfl); (case hr => first | (go_simp; done) | (go_simp; rfl))
  intro gb4 hg w31 hbox hb
  have BK4 := Aside0.mk (hbox)
  have GW4 := Aside0.mk ((by rw [hg]; exact (below_size (IsS81.bw HB HI631)) : w.heap.size ≤ gb4))
  have GE4 := Aside0.mk ((by rw [hg]; exact (below_size (IsS81.bw HB HI631)) : w.heap.size ≤ gb4))
  replace HB := IsS81.kbw HB HI631 hb
  obtain ⟨NB1_4, NB4_1, NB3_4, NB4_3⟩ := nv2 hg BK1 BK3
  refine mv2 hb BK1 BK3 ?_
  clear BK1 BK3
  intro BK1 BK3
  have NB2_4 := IsS81.nl HI631 hg
  have NB4_2 := ns (IsS81.nl HI631 hg)
  replace HI631 := IsS81.kb HI631 hb
  clear hb hbox hg
  refine hK.out _ _ ⟨bc BK3 0, bc BK3 1⟩ (fun hHeld => ?_)
  clear hK K
  refine normK (N := some 5) (h := ?_)
  refine oneK HT_ 5 (some 22) (fun K hK => ?_)
  refine goes_ Try.func6 (by kernel_rfl) rfl #[.agg #[.int .i64 t640, .int .i64 t641], .int .i64 t645, .int .i64 t648] (by rfl) rfl rfl argR ?_
  with_reducible refine (spec_MakePuzzle.calls k t640 t641 t645 t648 t651 t654 _ A15.out).mono ?_
  rintro e w32 ⟨v652, rfl, ho0, hb⟩
  refine ⟨_, rfl, ?_⟩
  have HO653 := Aside0.mk (Kd.R_lower ho0 (below_size (IsS81.bw HB HI631)))
  refine mv3 hb BK1 BK3 BK4 ?_
  clear BK1 BK3 BK4
  intro BK1 BK3 BK4
  replace HB := IsS81.kbw HB HI631 hb
  replace HI631 := IsS81.kb HI631 hb
  (try clear hb)
  (try clear hb2)
  (try clear hk)
  (try clear hi)
  (try clear ho0)
  refine hK.out _ _ ⟨bc BK3 0, bc BK3 1⟩ (fun hHeld => ?_)
  clear hK K
  refine normK (N := some 22) (h := ?_)
  refine pureK HT_ 6 (some 16) ?_
  refine pureK HT_ 7 (some 23) ?_
  refine pureK HT_ 8 (some 24) ?_
  exact norm_ (by simp only [putAll, Act.put, List.setIfInBounds_toArray, List.set_cons_zero, List.set_cons_succ]) (hCont (v652, gb4) _ ⟨hHeld, (ro HO653), (bk BK1), (bk BK3), (bk BK4), GW4.out, GE4.out, NB2_4.out, NB4_2.out, NB1_4.out, NB4_1.out, NB3_4.out, NB4_3.out, (IsS81.w HI631), (IsS81.bw HB HI631)⟩)
 rintro ⟨v652, gb4⟩ w33 ⟨hS_, h0_, h1_, h2_, h3_, h4_, h5_, h6_, h7_, h8_, h9_, h10_, h11_, h12_, h13_⟩
 have n0_ : Aside0 (Kd.R k28 28 w33 w.heap.size (fun _ => True) v652 t651) := ⟨h0_⟩
 have n1_ : Aside0 (w33.heap[gb1]? = some (.cells #[.slice none 0 0] 26 (0, 0))) := ⟨h1_⟩
 have n2_ : Aside0 (w33.heap[gb3]? = some (.cells #[.int .i64 t640, .int .i64 t641] 23 (0, 0))) := ⟨h2_⟩
 have n3_ : Aside0 (w33.heap[gb4]? = some (.cells #[.slice none 0 0] 26 (0, 0))) := ⟨h3_⟩
 have n4_ : Aside0 (w.heap.size ≤ gb4) := ⟨h4_⟩
 have n5_ : Aside0 (w.heap.size ≤ gb4) := ⟨h5_⟩
 have n6_ : Aside0 (gb2 ≠ gb4) := ⟨h6_⟩
 have n7_ : Aside0 (gb4 ≠ gb2) := ⟨h7_⟩
 have n8_ : Aside0 (gb1 ≠ gb4) := ⟨h8_⟩
 have n9_ : Aside0 (gb4 ≠ gb1) := ⟨h9_⟩
 have n10_ : Aside0 (gb3 ≠ gb4) := ⟨h10_⟩
 have n11_ : Aside0 (gb4 ≠ gb3) := ⟨h11_⟩
 have n12_ : Aside0 (IsS81 w w33 gb2 l0 t649 t650) := ⟨h12_⟩
 have n13_ : Aside0 (Below w.heap.size w w33) := ⟨h13_⟩
 clear BK1
 clear BK3
 clear HI631
 clear HB
 clear h0_ h1_ h2_ h3_ h4_ h5_ h6_ h7_ h8_ h9_ h10_ h11_ h12_ h13_
 have HO653 := n0_
 have BK1 := n1_
 have BK3 := n2_
 have BK4 := n3_
 have GW4 := n4_
 have GE4 := n5_
 have NB2_4 := n6_
 have NB4_2 := n7_
 have NB1_4 := n8_
 have NB4_1 := n9_
 have NB3_4 := n10_
 have NB4_3 := n11_
 have HI631 := n12_
 have HB := n13_
 clear n0_ n1_ n2_ n3_ n4_ n5_ n6_ n7_ n8_ n9_ n10_ n11_ n12_ n13_
 have hHeld : w33.cell? ⟨gb3, 0, none⟩ = some (.int .i64 t640) ∧ w33.cell? ⟨gb3, 1, none⟩ = some (.int .i64 t641) := hS_
 obtain ⟨Ao34, co34, eo34⟩ := Kd.R_slice HO653.out
 (first | subst eo34 | (injection eo34 with f1_ f2_ f3_; have f4_ := f1_.symm; have f5_ := f3_.symm; clear f1_ f2_ f3_; subst f4_; subst f5_))
 refine norm_ (a' := ?_) ?_ ?_
 rotate_left
 ·
  simp only [putAll, Act.put, List.setIfInBounds_toArray, List.set_cons_zero, List.set_cons_succ]
  rfl
 refine oneK HT_ 10 none (fun K hK => ?_)
 have hs35 : w33.cell? ⟨gb4, 0, none⟩ = some (.slice none 0 0) := bc BK4 0
 have hfs35 := blk_frozen BK4.out 0
 have hns35_0 := NB1_4.out
 have hns35_1 := NB3_4.out
 have hms35_0 := NB4_1.out
 have hms35_1 := NB4_3.out
 refine skip_ (w1 := ?_) (by rfl) rfl ?_ ?_
 rotate_left
 ·
  go_simp
  rfl
 refine hK.out _ _ ⟨((cell_far (p := ⟨gb4, _, none⟩) NB3_4.out _).trans (hHeld.1)), ((cell_far (p := ⟨gb4, _, none⟩) NB3_4.out _).trans (hHeld.2))⟩ (fun hHeld => ?_)
 clear hK K
 refine pureK HT_ 11 (some 6) ?_
 refine done_ (done_of HT_.out (by kernel_rfl)) ?_
 try go_wp2
 have n0_ : Aside0 (Kd.R k28 28 (w33.setCell ⟨gb4, 0, none⟩ (.slice Ao34 t651.length co34)) w.heap.size (fun _ => True) (.slice Ao34 t651.length co34) t651) := ⟨by (with_reducible repeat (first | apply Kd.R_alloc | apply Kd.R_drewN | apply Kd.R_drew)); exact Kd.R_mono (Kd.R_far (p := ⟨gb4, 0, none⟩) (Kd.R_types HO653.out BK4.out (by decide)) (fun _ hk => hk.2) (.slice Ao34 t651.length co34)) (fun _ hk => trivial)⟩
 have n1_ : Aside0 ((w33.setCell ⟨gb4, 0, none⟩ (.slice Ao34 t651.length co34)).heap[gb1]? = some (.cells #[.slice none 0 0] 26 (0, 0))) := ⟨bf BK1 NB1_4⟩
 have n2_ : Aside0 ((w33.setCell ⟨gb4, 0, none⟩ (.slice Ao34 t651.length co34)).heap[gb3]? = some (.cells #[.int .i64 t640, .int .i64 t641] 23 (0, 0))) := ⟨bf BK3 NB3_4⟩
 have n3_ : Aside0 ((w33.setCell ⟨gb4, 0, none⟩ (.slice Ao34 t651.length co34)).heap[gb4]? = some (.cells #[.slice Ao34 t651.length co34] 26 (0, 0))) := ⟨bt BK4⟩
 have n4_ : Aside0 (IsS81 w (w33.setCell ⟨gb4, 0, none⟩ (.slice Ao34 t651.length co34)) gb2 l0 t649 t650) := ⟨(IsS81.w HI631)⟩
 have n5_ : Aside0 (Below w.heap.size w (w33.setCell ⟨gb4, 0, none⟩ (.slice Ao34 t651.length co34))) := ⟨(IsS81.bw HB HI631)⟩
 (try clear HO653)
 (try clear BK1)
 (try clear BK3)
 (try clear BK4)
 (try clear HI631)
 (try clear HB)
 generalize (w33.setCell ⟨gb4, 0, none⟩ (.slice Ao34 t651.length co34)) = w36 at n0_ n1_ n2_ n3_ n4_ n5_ ⊢
 have HO653 := n0_
 have BK1 := n1_
 have BK3 := n2_
 have BK4 := n3_
 have HI631 := n4_
 have HB := n5_
 clear n0_ n1_ n2_ n3_ n4_ n5_
 replace HO653 := od HO653
 refine md3 BK1 BK3 BK4 ?_
 clear BK1 BK3 BK4
 intro BK1 BK3 BK4
 replace HI631 := Aside0.mk (IsS81.drew HI631.out)
 replace HB := Aside0.mk (below_drew1 HB.out)
 refine start_ (n := 10) (S := fun w' => w'.cell? ⟨gb4, 0, none⟩ = some (.slice Ao34 t651.length co34) ∧ w'.cell? ⟨gb3, 0, none⟩ = some (.int .i64 t640) ∧ w'.cell? ⟨gb3, 1, none⟩ = some (.int .i64 t641)) (ds := [9]) #[false, false, false, false, false, false, false, false, false, false] (by kernel_rfl) rfl rfl ⟨bc BK4 0, bc BK3 0, bc BK3 1⟩ (fun hHeld => ?_); refine with_tabW spec_DrawHarderPuzzle.tab6 spec_DrawHarderPuzzle.bits6 (fun HT_ HW_ => ?_)
 generalize w36.drew = w37 at HO653 BK1 BK3 BK4 HI631 HB hHeld ⊢
 refine pureK HT_ 0 (some 25) ?_
 refine takeK HT_ HW_ hHeld 1 (some 26) ?_
 refine takeK HT_ HW_ hHeld 2 (some 27) ?_
 refine takeK HT_ HW_ hHeld 4 (some 29) ?_
 refine oneK HT_ 3 (some 28) (fun K hK => ?_)
 refine goes_ Try.func38 (by kernel_rfl) rfl #[.int .i64 2, .int .i64 0, .agg #[.int .i64 t640, .int .i64 t641]] (by rfl) rfl rfl argR ?_
 with_reducible refine (spec_pzOf.calls k 2 0 t640 t641 t656 t657 t658 _ A16.out).mono ?_
 rintro e w38 ⟨rfl, hb⟩
 refine ⟨_, rfl, ?_⟩
 replace HO653 := ko HO653 hb
 refine mv3 hb BK1 BK3 BK4 ?_
 clear BK1 BK3 BK4
 intro BK1 BK3 BK4
 replace HB := IsS81.kbw HB HI631 hb
 replace HI631 := IsS81.kb HI631 hb
 (try clear hb)
 (try clear hb2)
 (try clear hk)
 (try clear hi)
 refine hK.out _ _ ⟨bc BK4 0, bc BK3 0, bc BK3 1⟩ (fun hHeld => ?_)
 clear hK K
 refine normK (N := some 28) (h := ?_)
 refine oneK HT_ 5 (some 30) (fun K hK => ?_)
 refine goes_ Try.func38 (by kernel_rfl) rfl #[.int .i64 4, .int .i64 0, .agg #[.int .i64 t640, .int .i64 t641]] (by rfl) rfl rfl argR ?_
 with_reducible refine (spec_pzOf.calls k 4 0 t640 t641 t659 t660 t661 _ A17.out).mono ?_
 rintro e w39 ⟨rfl, hb⟩
 refine ⟨_, rfl, ?_⟩
 replace HO653 := ko HO653 hb
 refine mv3 hb BK1 BK3 BK4 ?_
 clear BK1 BK3 BK4
 intro BK1 BK3 BK4
 replace HB := IsS81.kbw HB HI631 hb
 replace HI631 := IsS81.kb HI631 hb
 (try clear hb)
 (try clear hb2)
 (try clear hk)
 (try clear hi)
 refine hK.out _ _ ⟨bc BK4 0, bc BK3 0, bc BK3 1⟩ (fun hHeld => ?_)
 clear hK K
 refine normK (N := some 30) (h := ?_)
 refine oneK HT_ 6 (some 31) (fun K hK => ?_)
 refine Kd.R_lit_step k28 _ 28 ?hg (N := 31) ?hd (xs := ([(⟨t656, t657, t658⟩ : S28), (⟨t659, t660, t661⟩ : S28)] : List (S28))) (inner := [.int .i64 t656, .int .i64 t657, .int .i64 t658, .int .i64 t659, .int .i64 t660, .int .i64 t661]) (ok := fun _ => True) (okp := fun _ => True) ?hr ?hp (fun _ hk => hk) trivial (Below.refl _ _) (Nat.le_refl _) (by simp) ?_; (case hd => rfl); (case hg => rfl); (case hr => first | (go_simp; done) | (go_simp; rfl)); (case hp => exact (Reps.c3 (show Kd.M k28 _ _ _ (⟨t656, t657, t658⟩ : S28) [.int .i64 t656, .int .i64 t657, .int .i64 t658] from (k28_mkM _ _ _ (⟨t656, t657, t658⟩ : S28) )) (Reps.c3 (show Kd.M k28 _ _ _ (⟨t659, t660, t661⟩ : S28) [.int .i64 t659, .int .i64 t660, .int .i64 t661] from (k28_mkM _ _ _ (⟨t659, t660, t661⟩ : S28) )) (Reps.none _ _))))
 intro v663 w40 ho41 hb hg_ hnew_
 clear hg_ hnew_
 (first | rw [← Ny662.out] at ho41 | (simp only [Int.reduceToNat] at ho41; rw [← Ny662.out] at ho41))
 have HO664 := Aside0.mk (Kd.R_lower (Kd.R_new' ho41 (Kd.R_lt (ro HO653))) (below_size (IsS81.bw HB HI631)))
 replace HO653 := Aside0.mk (Kd.R_elder' (ro HO653) (Kd.R_base ho41) hb)
 refine mv3 hb BK1 BK3 BK4 ?_
 clear BK1 BK3 BK4
 intro BK1 BK3 BK4
 replace HB := IsS81.kbw HB HI631 hb
 replace HI631 := IsS81.kb HI631 hb
 clear hb ho41
 obtain ⟨Ao43, co43, eo43⟩ := Kd.R_slice HO664.out
 (first | subst eo43 | (injection eo43 with f1_ f2_ f3_; have f4_ := f1_.symm; have f5_ := f3_.symm; clear f1_ f2_ f3_; subst f4_; subst f5_))
 refine hK.out _ _ ⟨bc BK4 0, bc BK3 0, bc BK3 1⟩ (fun hHeld => ?_)
 clear hK K
 refine normK (N := some 31) (h := ?_)
 refine oneK HT_ 7 (some 32) (fun K hK => ?_)
 refine Kd.R_append_rows_step k28 (w0 := w) w.heap.size (by rfl) (.tmp 26) (.tmp 31) 24 28 (.agg #[(.int .i64 0), (.int .i64 0), (.int .i64 0)]) 24 rfl Try.underlying24 info28 rfl (by decide) (by omega) (.slice Ao34 t651.length co34) t651 y662 _ _ _ (fun k_ => some k_ ≠ (.slice Ao43 y662.length co43 : Value).ownBlock) (fun _ => False) rfl rfl ?aO ?aR (fun _ _ h => h) (fun _ h => h.elim) ?aF ?aB ?aS ?aL ?_
 (case aR => exact rs HO664)
 (case aB => exact (IsS81.bw HB HI631))
 (case aF => exact (fun k_ hk => Kd.fresh' (Kd.R_lt (ro HO664)) k_ hk))
 (case aO => exact (by (with_reducible repeat (first | apply Kd.R_alloc | apply Kd.R_drewN | apply Kd.R_drew)); exact Kd.R_mono HO653.out (fun _ hk => hk.2)))
 (case aS => exact (below_size (IsS81.bw HB HI631)))
 (case aL => have := LMc18.out; omega)
 intro v666 w42 ho hb hg hat
 rw [← Ny665.out] at ho
 replace BK1 := Aside0.mk (blk_grown (bk BK1) hg (Kd.R_ne HO653.out BK1.out (by decide)))
 replace HI631 := Aside0.mk (IsS81.grown (IsS81.w HI631) hg (IsS81.own_ne HI631.out HO653.out (by decide)))
 replace BK3 := Aside0.mk (blk_grown (bk BK3) hg (Kd.R_ne HO653.out BK3.out (by decide)))
 replace BK4 := Aside0.mk (blk_grown (bk BK4) hg (Kd.R_ne HO653.out BK4.out (by decide)))
 replace HO664 := Aside0.mk (Kd.R_after (ok := (fun _ => True)) (ro HO664) hg hat)
 replace HB := Aside0.mk (hb)
 have HO667 := Aside0.mk (ho)
 clear HO653
 clear ho hb hg hat
 obtain ⟨Ao44, co44, eo44⟩ := Kd.R_slice HO667.out
 (first | subst eo44 | (injection eo44 with f1_ f2_ f3_; have f4_ := f1_.symm; have f5_ := f3_.symm; clear f1_ f2_ f3_; subst f4_; subst f5_))
 refine hK.out _ _ ⟨bc BK4 0, bc BK3 0, bc BK3 1⟩ (fun hHeld => ?_)
 clear hK K
 refine normK (N := some 32) (h := ?_)
 refine pureK HT_ 8 (some 33) ?_
 refine last_ (i := 9) (N := none) #[true, true, true, true, true, true, true, true, true, true] rfl rfl (one_of HT_.out (by kernel_rfl)) (by decide) (fun K hK => ?_)
 have hs45 : w42.cell? ⟨gb4, 0, none⟩ = some (.slice Ao34 t651.length co34) := bc BK4 0
 have hfs45 := blk_frozen BK4.out 0
 have hns45_0 := NB1_4.out
 have hns45_1 := NB3_4.out
 have hms45_0 := NB4_1.out
 have hms45_1 := NB4_3.out
 refine skip_ (w1 := ?_) (by rfl) rfl ?_ ?_
 rotate_left
 ·
  go_simp
  rfl
 refine hK.out _ _ ?_
 clear hK K
 refine done_ (done_of HT_.out (by kernel_rfl)) ?_
 have hnb46 := up3 NB4_1 NB4_3 NB4_2
 obtain ⟨hcz49_0, hfz49_0⟩ := kc1 BK4
 have hnb50 := up1 NB1_2
 obtain ⟨hcz51_0, hfz51_0⟩ := kc1 BK1
 try go_wp2
 refine bodyPost_ret (results_cell_row rfl _ _ gb1 26 #[.slice Ao44 y665.length co44] (0, 0) _ rfl (bt BK1) Try.underlying26 rfl (by kernel_rfl)) rfl ?_
 exact ⟨_, eqR, by (with_reducible repeat (first | apply Kd.R_alloc | apply Kd.R_drewN | apply Kd.R_drew)); exact Kd.R_mono (Kd.R_far (p := ⟨gb1, 0, none⟩) (Kd.R_far (p := ⟨gb4, 0, none⟩) (Kd.R_types (Kd.R_types HO667.out BK4.out (by decide)) BK1.out (by decide)) (fun _ hk => hk.1.2) (.slice Ao44 y665.length co44)) (fun _ hk => hk.2) (.slice Ao44 y665.length co44)) (fun _ hk => trivial), (IsS81.bw HB HI631)⟩

/-! ### spec_DrawAddClue: function 28 -/
def spec_DrawAddClue.f (k : Nat) (l0 : List Int) : Option ((List (S28)) × Int × Int × Int) := (spec_l1Cur_puzzle.f k l0 0 0).bind fun bt671 => ((spec_l1Cur_clue.f k l0 bt671.2.1 bt671.2.2).bind fun bt676 => (some (bt671.1, bt676.1, bt676.2.1, bt676.2.2.1)))
set_option maxHeartbeats 8000000 in
set_option maxRecDepth 100000 in
theorem spec_DrawAddClue.calls (k : Nat) (A0 : Option Addr) (c0 : Nat) (l0 : List Int) (r1 : List (S28)) (r2 : Int) (r3 : Int) (r4 : Int) (w : World) (hr0 : Kd.C (Kd.int .u8) w A0 l0.length l0) (hc0 : l0.length ≤ c0) (h : spec_DrawAddClue.f k l0 = some (r1, r2, r3, r4)) :
    Calls Try.prog 28 #[.slice A0 l0.length c0] w fun e w' => ∃ v0_ : Value, e = .returned (.tuple #[.agg #[v0_], .agg #[.int .i64 r2, .int .i64 r3, .int .i64 r4]]) ∧ Kd.R k28 28 w' w.heap.size (fun _ => True) v0_ r1 ∧ Below w.heap.size w w' := by
 have hu26 := Try.underlying26
 have hu28 := Try.underlying28
 have hu81 := Try.underlying81
 have HR0 := Aside0.mk hr0
 have HC0 := Aside0.mk hc0
 clear hr0 hc0
 have HB := Aside0.mk (Below.refl w.heap.size w)
 have H : ((spec_l1Cur_puzzle.f k l0 0 0).bind fun bt671 => ((spec_l1Cur_clue.f k l0 bt671.2.1 bt671.2.2).bind fun bt676 => (some (bt671.1, bt676.1, bt676.2.1, bt676.2.2.1)))) = some (r1, r2, r3, r4) := h
 clear h
 replace H := bindS H; obtain ⟨⟨t671, t674, t675⟩, A2, H⟩ := H
 replace H := bindS H; obtain ⟨⟨t676, t677, t678, t679, t680⟩, A3, H⟩ := H
 simp only [Option.some.injEq, Prod.mk.injEq] at H
 obtain ⟨rfl, rfl, rfl, rfl⟩ := H
 go_enter Try.func28, Try.ntmps28
 go_wp2_with (first | ((with_reducible refine gate_dst (N := 2) rfl ?_); refine boxK HB (N := 2) (cs := #[.slice none 0 0]) (t := 26) (h := ?_); clear HB; intro gb1 hg w4 BK1 GW1 GE1 HB hb; clear hb hg) | ((with_reducible refine gate_dst (N := 3) rfl ?_); refine boxK HB (N := 3) (cs := #[.int .i64 0, .int .i64 0, .int .i64 0]) (t := 28) (h := ?_); clear HB; intro gb2 hg w5 BK2 GW2 GE2 HB hb; obtain ⟨NB1_2, NB2_1⟩ := nv1 hg BK1; replace BK1 := kb BK1 hb; clear hb hg) | ((with_reducible refine gate_dst (N := 7) rfl ?_); refine boxP (N := 7) (cs := #[.slice A0 l0.length c0, .int .i64 0, .int .u64 0]) (t := 81) (h := ?_); intro gb3 hg w6 hbox hb; obtain ⟨NB1_3, NB3_1, NB2_3, NB3_2⟩ := nv2 hg BK1 BK2; refine mv2 hb BK1 BK2 ?_; clear BK1 BK2; intro BK1 BK2; have HI670 := Aside0.mk ((⟨_, _, hbox, (by rw [hg]; exact (below_size (bw HB))), HR0.out⟩ : IsS81 w w6 gb3 l0 0 0)); replace HB := kw HB hb; clear hb hbox hg) | ((with_reducible refine gate_callee (f := 59) rfl ?_); refine goK (some 9) Try.func59 #[.pointer (some ⟨gb3, 0, none⟩)] ?_; (with_reducible refine (spec_l1Cur_puzzle.calls k gb3 l0 0 0 t671 t674 t675 w _ ?side1 ?side2 A2.out).mono ?_); (case side1 => exact IsS81.w HI670); (case side2 => exact IsS81.bw HB HI670); rintro e w7 ⟨v672, rfl, ho0, hi, hb, hk⟩; refine ⟨_, rfl, ?_⟩; replace BK1 := kbk BK1 NB1_3 hk; have HO673 := Aside0.mk (Kd.R_lower (Kd.R_newB ho0 (bk BK2)) (below_size (IsS81.bw HB HI670))); replace BK2 := kbk BK2 NB2_3 hk; replace HB := Aside0.mk (hb); replace HI670 := Aside0.mk (hi); (try clear hb); (try clear hk); (try clear hi); (try clear ho0)) | ((with_reducible refine gate_callee (f := 60) rfl ?_); refine goK (some 11) Try.func60 #[.pointer (some ⟨gb3, 0, none⟩)] ?_; (with_reducible refine (spec_l1Cur_clue.calls k gb3 l0 t674 t675 t676 t677 t678 t679 t680 w _ ?side1 ?side2 A3.out).mono ?_); (case side1 => exact IsS81.w HI670); (case side2 => exact IsS81.bw HB HI670); rintro e w8 ⟨rfl, hi, hb, hk⟩; refine ⟨_, rfl, ?_⟩; replace BK1 := kbk BK1 NB1_3 hk; replace BK2 := kbk BK2 NB2_3 hk; replace HO673 := Aside0.mk (Kd.R_mono (Kd.R_keep (IsS81.apart (show IsS81 w _ gb3 l0 t674 t675 from (IsS81.w HI670)) (ro HO673) (by decide)) hk (fun _ h => h.2)) (fun _ h => h.1)); replace HB := Aside0.mk (hb); replace HI670 := Aside0.mk (hi); (try clear hb); (try clear hk); (try clear hi); obtain ⟨Ao9, co9, eo9⟩ := Kd.R_slice HO673.out; subst eo9; have hnb10 := up2 NB1_2 NB1_3; obtain ⟨hcz12_0, hfz12_0⟩ := kc1 BK1; have hnb13 := up1 NB2_3; obtain ⟨hcz14_0, hcz14_1, hcz14_2, hfz14_0, hfz14_1, hfz14_2⟩ := kc3 BK2))
 refine bodyPost_ret (results_cc rfl _ _ gb1 gb2 26 28 #[.slice Ao9 t671.length co9] #[.int .i64 t676, .int .i64 t677, .int .i64 t678] (0, 0) (0, 0) _ _ rfl (bt BK1) Try.underlying26 rfl (by kernel_rfl) rfl (bt BK2) Try.underlying28 rfl (by kernel_rfl)) rfl ?_
 exact ⟨_, eqR, by (with_reducible repeat (first | apply Kd.R_alloc | apply Kd.R_drewN | apply Kd.R_drew)); exact Kd.R_mono (Kd.R_far (p := ⟨gb2, 2, none⟩) (Kd.R_far (p := ⟨gb2, 1, none⟩) (Kd.R_far (p := ⟨gb2, 0, none⟩) (Kd.R_far (p := ⟨gb1, 0, none⟩) (Kd.R_mono (Kd.R_types HO673.out BK1.out (by decide)) (fun k_ hk => (⟨hk, hk.1.2⟩ : _ ∧ k_ ≠ gb2))) (fun _ hk => hk.1.2) (.slice Ao9 t671.length co9)) (fun _ hk => hk.2) (.int .i64 t676)) (fun _ hk => hk.2) (.int .i64 t677)) (fun _ hk => hk.2) (.int .i64 t678)) (fun _ hk => trivial), (IsS81.bw HB HI670)⟩

/-! ### spec_DrawDropClue: function 29 -/
def spec_DrawDropClue.f (k : Nat) (l0 : List Int) : Option ((List (S28)) × Int) := (spec_l1Cur_puzzle.f k l0 0 0).bind fun bt683 => ((spec_l1Cur_pick.f l0 bt683.2.1 bt683.2.2 6).bind fun bt688 => ((spec_l1Cur_pick.f l0 bt688.2.1 bt688.2.2 9).bind fun bt691 => (some (bt683.1, wrap64 (bt688.1 - (wrap64 (Int.tdiv bt691.1 8)))))))
set_option maxHeartbeats 8000000 in
set_option maxRecDepth 100000 in
theorem spec_DrawDropClue.calls (k : Nat) (A0 : Option Addr) (c0 : Nat) (l0 : List Int) (r1 : List (S28)) (r2 : Int) (w : World) (hr0 : Kd.C (Kd.int .u8) w A0 l0.length l0) (hc0 : l0.length ≤ c0) (h : spec_DrawDropClue.f k l0 = some (r1, r2)) :
    Calls Try.prog 29 #[.slice A0 l0.length c0] w fun e w' => ∃ v0_ : Value, e = .returned (.tuple #[.agg #[v0_], .int .i64 r2]) ∧ Kd.R k28 28 w' w.heap.size (fun _ => True) v0_ r1 ∧ Below w.heap.size w w' := by
 have hu26 := Try.underlying26
 have hu81 := Try.underlying81
 have HR0 := Aside0.mk hr0
 have HC0 := Aside0.mk hc0
 clear hr0 hc0
 have HB := Aside0.mk (Below.refl w.heap.size w)
 have H : ((spec_l1Cur_puzzle.f k l0 0 0).bind fun bt683 => ((spec_l1Cur_pick.f l0 bt683.2.1 bt683.2.2 6).bind fun bt688 => ((spec_l1Cur_pick.f l0 bt688.2.1 bt688.2.2 9).bind fun bt691 => (some (bt683.1, wrap64 (bt688.1 - (wrap64 (Int.tdiv bt691.1 8)))))))) = some (r1, r2) := h
 clear h
 replace H := bindS H; obtain ⟨⟨t683, t686, t687⟩, A2, H⟩ := H
 replace H := bindS H; obtain ⟨⟨t688, t689, t690⟩, A3, H⟩ := H
 replace H := bindS H; obtain ⟨⟨t691, t692, t693⟩, A4, H⟩ := H
 simp only [Option.some.injEq, Prod.mk.injEq] at H
 obtain ⟨rfl, rfl⟩ := H
 go_enter Try.func29, Try.ntmps29
 go_wp2_with (first | ((with_reducible refine gate_dst (N := 2) rfl ?_); refine boxK HB (N := 2) (cs := #[.slice none 0 0]) (t := 26) (h := ?_); clear HB; intro gb1 hg w5 BK1 GW1 GE1 HB hb; clear hb hg) | ((with_reducible refine gate_dst (N := 7) rfl ?_); refine boxP (N := 7) (cs := #[.slice A0 l0.length c0, .int .i64 0, .int .u64 0]) (t := 81) (h := ?_); intro gb2 hg w6 hbox hb; obtain ⟨NB1_2, NB2_1⟩ := nv1 hg BK1; replace BK1 := kb BK1 hb; have HI682 := Aside0.mk ((⟨_, _, hbox, (by rw [hg]; exact (below_size (bw HB))), HR0.out⟩ : IsS81 w w6 gb2 l0 0 0)); replace HB := kw HB hb; clear hb hbox hg) | ((with_reducible refine gate_callee (f := 59) rfl ?_); refine goK (some 9) Try.func59 #[.pointer (some ⟨gb2, 0, none⟩)] ?_; (with_reducible refine (spec_l1Cur_puzzle.calls k gb2 l0 0 0 t683 t686 t687 w _ ?side1 ?side2 A2.out).mono ?_); (case side1 => exact IsS81.w HI682); (case side2 => exact IsS81.bw HB HI682); rintro e w7 ⟨v684, rfl, ho0, hi, hb, hk⟩; refine ⟨_, rfl, ?_⟩; replace BK1 := kbk BK1 NB1_2 hk; have HO685 := Aside0.mk (Kd.R_lower ho0 (below_size (IsS81.bw HB HI682))); replace HB := Aside0.mk (hb); replace HI682 := Aside0.mk (hi); (try clear hb); (try clear hk); (try clear hi); (try clear ho0)) | ((with_reducible refine gate_callee (f := 58) rfl ?_); refine goK (some 11) Try.func58 #[.pointer (some ⟨gb2, 0, none⟩), .int .i64 6] ?_; (with_reducible refine (spec_l1Cur_pick.calls gb2 l0 t686 t687 6 t688 t689 t690 w _ ?side1 ?side2 A3.out).mono ?_); (case side1 => exact IsS81.w HI682); (case side2 => exact IsS81.bw HB HI682); rintro e w8 ⟨rfl, hi, hb, hk⟩; refine ⟨_, rfl, ?_⟩; replace BK1 := kbk BK1 NB1_2 hk; replace HO685 := Aside0.mk (Kd.R_mono (Kd.R_keep (IsS81.apart (show IsS81 w _ gb2 l0 t686 t687 from (IsS81.w HI682)) (ro HO685) (by decide)) hk (fun _ h => h.2)) (fun _ h => h.1)); replace HB := Aside0.mk (hb); replace HI682 := Aside0.mk (hi); (try clear hb); (try clear hk); (try clear hi)) | ((with_reducible refine gate_callee (f := 58) rfl ?_); refine goK (some 13) Try.func58 #[.pointer (some ⟨gb2, 0, none⟩), .int .i64 9] ?_; (with_reducible refine (spec_l1Cur_pick.calls gb2 l0 t689 t690 9 t691 t692 t693 w _ ?side1 ?side2 A4.out).mono ?_); (case side1 => exact IsS81.w HI682); (case side2 => exact IsS81.bw HB HI682); rintro e w9 ⟨rfl, hi, hb, hk⟩; refine ⟨_, rfl, ?_⟩; replace BK1 := kbk BK1 NB1_2 hk; replace HO685 := Aside0.mk (Kd.R_mono (Kd.R_keep (IsS81.apart (show IsS81 w _ gb2 l0 t689 t690 from (IsS81.w HI682)) (ro HO685) (by decide)) hk (fun _ h => h.2)) (fun _ h => h.1)); replace HB := Aside0.mk (hb); replace HI682 := Aside0.mk (hi); (try clear hb); (try clear hk); (try clear hi); obtain ⟨Ao10, co10, eo10⟩ := Kd.R_slice HO685.out; subst eo10; have hnb11 := up1 NB1_2; obtain ⟨hcz12_0, hfz12_0⟩ := kc1 BK1))
 refine bodyPost_ret (results_ct rfl _ _ gb1 26 #[.slice Ao10 t683.length co10] (0, 0) _ rfl (bt BK1) Try.underlying26 rfl (by kernel_rfl)) rfl ?_
 exact ⟨_, eqR, by (with_reducible repeat (first | apply Kd.R_alloc | apply Kd.R_drewN | apply Kd.R_drew)); exact Kd.R_mono (Kd.R_far (p := ⟨gb1, 0, none⟩) (Kd.R_types HO685.out BK1.out (by decide)) (fun _ hk => hk.2) (.slice Ao10 t683.length co10)) (fun _ hk => trivial), (IsS81.bw HB HI682)⟩

end Go.Proofs.Ytlpjooijkeadbaa.PH
