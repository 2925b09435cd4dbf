-- Written by a program of our own (wip/tools/xprint.py) for this claim; Lean checks it.
import Derived.Test.YtlpjooijkeadbaaPHx0
import Derived.Test.YtlpjooijkeadbaaPHx12
namespace Go.Proofs.Ytlpjooijkeadbaa.PH
open Go.RowKit Go.Proofs.YtlpjooijkeadbaaK Go.Proofs.YtlpjooijkeadbaaW.PrintWords Go.Proofs.YtlpjooijkeadbaaW.PrintLast Go.Proofs.YtlpjooijkeadbaaW.PrintMore
attribute [local go_sem] max2_int min2_int max_two min_two max_three min_three max_four min_four   -- for this text's walks alone
set_option linter.unusedVariables false
set_option linter.unusedSimpArgs false

/-! ### spec_l1Cur_puzzle: function 59 -/
def spec_l1Cur_puzzle.l0 : Nat → List Int → Int → Int → List (S28) → Option ((List (S28)) × Int × Int)
  | 0, _, _, _, _ => none
  | k + 1, x1000, x1001, x1002, x613000 => (spec_l1Cur_pick.f x1000 x1001 x1002 2).bind fun bt624 => (if (x613000.length : Int) < (wrap64 (6 + bt624.1)) then (if x613000.length < 5864062014805 then (spec_l1Cur_puzzle.l0 k x1000 bt624.2.1 bt624.2.2 (x613000 ++ [(⟨2, 0, 9⟩ : S28)])) else (none)) else (some (x613000, bt624.2.1, bt624.2.2)))
def spec_l1Cur_puzzle.f (k : Nat) (s0_0 : List Int) (s0_1 : Int) (s0_2 : Int) : Option ((List (S28)) × Int × Int) := (spec_l1Cur_surePuzzle.f k s0_0 s0_1 s0_2 5).bind fun bt607 => ((spec_l1Cur_pick.f s0_0 bt607.2.1 bt607.2.2 12).bind fun bt613 => (if bt613.1 = 0 then ((spec_l1Cur_clue.f k s0_0 bt613.2.1 bt613.2.2).bind fun bt616 => (if bt607.1.length < 5864062014805 then (some ((bt607.1 ++ [(⟨bt616.1, bt616.2.1, bt616.2.2.1⟩ : S28)]), bt616.2.2.2.1, bt616.2.2.2.2)) else (none))) else (if bt613.1 = 1 then (spec_l1Cur_puzzle.l0 k s0_0 bt613.2.1 bt613.2.2 bt607.1) else (some (bt607.1, bt613.2.1, bt613.2.2)))))
def spec_l1Cur_puzzle.T4 : Bool × List (List Nat × List Nat) := (true, [([], []), ([0], [0]), ([], []), ([2], [2]), ([3], [3]), ([1, 4, 3], [1, 4]), ([0, 1, 2, 3, 4, 5], []), ([6, 5, 5, 0, 1, 2, 3, 4, 5], [5, 6])])
def spec_l1Cur_puzzle.B4 : List Nat := [0, 1, 0, 4, 12, 31, 63, 127]
theorem spec_l1Cur_puzzle.tab4 : rtab .any (opsOf Try.f59 4) = spec_l1Cur_puzzle.T4 := by kernel_rfl
theorem spec_l1Cur_puzzle.bits4 : waitsOk spec_l1Cur_puzzle.T4.2 spec_l1Cur_puzzle.B4 = true := by kernel_rfl
set_option maxHeartbeats 8000000 in
set_option maxRecDepth 100000 in
theorem spec_l1Cur_puzzle.calls (k : Nat) (g : Nat) (s0_0 : List Int) (s0_1 : Int) (s0_2 : Int) (r1 : List (S28)) (r2 : Int) (r3 : Int) (w0 w : World) (hI : IsS81 w0 w g s0_0 s0_1 s0_2) (hB : Below w0.heap.size w0 w) (h : spec_l1Cur_puzzle.f k s0_0 s0_1 s0_2 = some (r1, r2, r3)) :
    Calls Try.prog 59 #[.pointer (some ⟨g, 0, none⟩)] w fun e w' => ∃ v0_ : Value, e = .returned (.agg #[v0_]) ∧ Kd.R k28 28 w' w.heap.size (fun _ => True) v0_ r1 ∧ IsS81 w0 w' g s0_0 r2 r3 ∧ Below w0.heap.size w0 w' ∧ KeepBut w w' g none := by
 have hu26 := Try.underlying26
 have hu28 := Try.underlying28
 have HI0 := Aside0.mk hI
 have HK := Aside0.mk (KeepBut.refl w g none)
 have HL := Aside0.mk hB.size
 clear hI
 have HW0 := Aside0.mk hB.size
 have HB := Aside0.mk hB
 clear hB
 have H : ((spec_l1Cur_surePuzzle.f k s0_0 s0_1 s0_2 5).bind fun bt607 => ((spec_l1Cur_pick.f s0_0 bt607.2.1 bt607.2.2 12).bind fun bt613 => (if bt613.1 = 0 then ((spec_l1Cur_clue.f k s0_0 bt613.2.1 bt613.2.2).bind fun bt616 => (if bt607.1.length < 5864062014805 then (some ((bt607.1 ++ [(⟨bt616.1, bt616.2.1, bt616.2.2.1⟩ : S28)]), bt616.2.2.2.1, bt616.2.2.2.2)) else (none))) else (if bt613.1 = 1 then (spec_l1Cur_puzzle.l0 k s0_0 bt613.2.1 bt613.2.2 bt607.1) else (some (bt607.1, bt613.2.1, bt613.2.2)))))) = some (r1, r2, r3) := h
 clear h
 replace H := bindS H; obtain ⟨⟨t607, t610, t611⟩, A2, H⟩ := H
 replace H := bindS H; obtain ⟨⟨t613, t614, t615⟩, A3, H⟩ := H
 replace H := iteC H; rcases H with ⟨c4, H⟩ | ⟨c4, H⟩
 ·
  have c4b0 : (t613 == 0) = true := beq_iff_eq.mpr c4
  have c4b1 : (t613 != 0) = false := bne_eq_false_iff_eq.mpr c4
  clear c4
  replace H := bindS H; obtain ⟨⟨t616, t617, t618, t619, t620⟩, A5, H⟩ := H
  replace H := iteS H; obtain ⟨c6, H⟩ := H
  have LMc6 := Aside0.mk c6
  clear c6
  obtain ⟨y621, hy621⟩ : ∃ y_ : List (S28), y_ = (t607 ++ [(⟨t616, t617, t618⟩ : S28)]) := ⟨_, rfl⟩
  replace H : (some (y621, t619, t620)) = some (r1, r2, r3) := by first | (rw [hy621]; with_reducible exact H) | (have H2_ := (Option.bind_some _ _).symm.trans H; first | (rw [hy621]; with_reducible exact H2_) | with_reducible exact H2_) | with_reducible exact H | (rw [hy621]; exact H) | exact H
  have Ny621 := Aside0.mk hy621
  clear hy621
  simp only [Option.some.injEq, Prod.mk.injEq] at H
  obtain ⟨rfl, rfl, rfl⟩ := H
  go_enter Try.func59, Try.ntmps59
  try go_wp2_with (first | ((with_reducible refine gate_dst (N := 2) rfl ?_); refine boxP (N := 2) (cs := #[.slice none 0 0]) (t := 26) (h := ?_); intro gb1 hg w7 hbox hb; replace HB := IsS81.kbw HB HI0 hb; have BK1 := Aside0.mk (hbox); have GW1 := gwk HK hg; have GE1 := gek HW0 (gwk HK hg); replace HK := kkb HK hb; have NB0_1 := IsS81.nl HI0 hg; have NB1_0 := ns (IsS81.nl HI0 hg); replace HI0 := IsS81.kb HI0 hb; clear hb hbox hg) | ((with_reducible refine gate_callee (f := 71) rfl ?_); refine goK (some 5) Try.func71 #[.pointer (some ⟨g, 0, none⟩), .int .i64 5] ?_; (with_reducible refine (spec_l1Cur_surePuzzle.calls k g s0_0 s0_1 s0_2 5 t607 t610 t611 w0 _ ?side1 ?side2 A2.out).mono ?_); (case side1 => exact IsS81.w HI0); (case side2 => exact IsS81.bw HB HI0); rintro e w8 ⟨v608, rfl, ho0, hi, hb, hk⟩; refine ⟨_, rfl, ?_⟩; replace BK1 := kbk BK1 NB1_0 hk; have HO609 := Aside0.mk (Kd.R_lower ho0 (keep_size (w := w) (g := g) (row := none) (kk HK))); replace HK := kkt HK hk; replace HB := Aside0.mk (hb); replace HI0 := Aside0.mk (hi); (try clear hb); (try clear hk); (try clear hi); (try clear ho0)) | ((with_reducible refine gate_dst (N := 3) rfl ?_); refine boxP (N := 3) (cs := #[.slice none 0 0]) (t := 26) (h := ?_); intro gb2 hg w9 hbox hb; replace HO609 := ko HO609 hb; replace HB := IsS81.kbw HB HI0 hb; have BK2 := Aside0.mk (hbox); have GW2 := gwk HK hg; have GE2 := gek HW0 (gwk HK hg); replace HK := kkb HK hb; obtain ⟨NB1_2, NB2_1⟩ := nv1 hg BK1; replace BK1 := kb BK1 hb; have NB0_2 := IsS81.nl HI0 hg; have NB2_0 := ns (IsS81.nl HI0 hg); replace HI0 := IsS81.kb HI0 hb; clear hb hbox hg; obtain ⟨Ao10, co10, eo10⟩ := Kd.R_slice HO609.out; subst eo10; have hnb11 := up2 NB2_1 NB2_0; obtain ⟨hcz13_0, hfz13_0⟩ := kc1 BK2) | ((with_reducible refine gate_callee (f := 58) rfl ?_); refine goK (some 7) Try.func58 #[.pointer (some ⟨g, 0, none⟩), .int .i64 12] ?_; (with_reducible refine (spec_l1Cur_pick.calls g s0_0 t610 t611 12 t613 t614 t615 w0 _ ?side1 ?side2 A3.out).mono ?_); (case side1 => exact IsS81.w HI0); (case side2 => exact IsS81.bw HB HI0); rintro e w14 ⟨rfl, hi, hb, hk⟩; refine ⟨_, rfl, ?_⟩; replace BK1 := Aside0.mk (KeepBut.blk hk (g' := gb1) (o := .cells #[.slice none 0 0] 26 (0, 0)) (bf BK1 NB1_2) NB1_0.out (by simp)); replace HO609 := Aside0.mk (Kd.R_mono (Kd.R_keep (IsS81.apart (show IsS81 w0 _ g s0_0 t610 t611 from (IsS81.w HI0)) (by (with_reducible repeat (first | apply Kd.R_alloc | apply Kd.R_drewN | apply Kd.R_drew)); exact (Kd.R_mono (Kd.R_far (p := ⟨gb2, 0, none⟩) (Kd.R_types HO609.out BK2.out (by decide)) (fun _ hk => hk.2) (.slice Ao10 t607.length co10)) (fun _ h_ => h_.1))) (by decide)) hk (fun _ h => h.2)) (fun _ h => h.1)); replace BK2 := Aside0.mk (KeepBut.blk hk (g' := gb2) (o := .cells #[.slice Ao10 t607.length co10] 26 (0, 0)) (bt BK2) NB2_0.out (by simp)); replace HK := kkt HK hk; replace HB := Aside0.mk (hb); replace HI0 := Aside0.mk (hi); (try clear hb); (try clear hk); (try clear hi)))
  replace HO609 := od HO609
  refine md2 BK1 BK2 ?_
  clear BK1 BK2
  intro BK1 BK2
  replace HI0 := Aside0.mk (IsS81.drew HI0.out)
  replace HK := Aside0.mk (keep_drew HK.out)
  replace HB := Aside0.mk (below_drew1 HB.out)
  refine start_ (n := 8) (S := fun w' => w'.cell? ⟨gb2, 0, none⟩ = some (.slice Ao10 t607.length co10)) (ds := [7]) #[false, false, false, false, false, false, false, false] (by kernel_rfl) rfl rfl (bc BK2 0) (fun hHeld => ?_); refine with_tabW spec_l1Cur_puzzle.tab4 spec_l1Cur_puzzle.bits4 (fun HT_ HW_ => ?_)
  generalize w14.drew = w15 at HO609 BK1 BK2 HI0 HK HB hHeld ⊢
  refine pureK HT_ 0 (some 10) ?_
  refine pureK HT_ 2 (some 12) ?_
  refine takeK HT_ HW_ hHeld 1 (some 11) ?_
  refine oneK HT_ 3 (some 13) (fun K hK => ?_)
  refine goes_ Try.func60 (by kernel_rfl) rfl #[.pointer (some ⟨g, 0, none⟩)] (by rfl) rfl rfl argR ?_
  with_reducible refine (spec_l1Cur_clue.calls k g s0_0 t614 t615 t616 t617 t618 t619 t620 w0 _ ?side1 ?side2 A5.out).mono ?_
  (case side1 => exact IsS81.w HI0)
  (case side2 => exact IsS81.bw HB HI0)
  rintro e w16 ⟨rfl, hi, hb, hk⟩
  refine ⟨_, rfl, ?_⟩
  replace BK1 := kbk BK1 NB1_0 hk
  replace HO609 := Aside0.mk (Kd.R_mono (Kd.R_keep (IsS81.apart (show IsS81 w0 _ g s0_0 t614 t615 from (IsS81.w HI0)) (ro HO609) (by decide)) hk (fun _ h => h.2)) (fun _ h => h.1))
  replace BK2 := kbk BK2 NB2_0 hk
  replace HK := kkt HK hk
  replace HB := Aside0.mk (hb)
  replace HI0 := Aside0.mk (hi)
  (try clear hb)
  (try clear hb2)
  (try clear hk)
  (try clear hi)
  refine hK.out _ _ (bc BK2 0) (fun hHeld => ?_)
  clear hK K
  refine normK (N := some 13) (h := ?_)
  refine oneK HT_ 4 (some 14) (fun K hK => ?_)
  refine value_ (w1 := ?_) (v := ?_) (by rfl) rfl ?_ ?_
  rotate_left 2
  ·
   go_simp
   constructor
   · rfl
   rfl
  refine hK.out _ _ ((blk_cell (blk_alloc BK2.out _) 0).trans rfl) (fun hHeld => ?_)
  clear hK K
  refine normK (N := some 14) (h := ?_)
  refine oneK HT_ 5 (some 15) (fun K hK => ?_)
  refine Kd.R_append_step k28 w.heap.size (by rfl) (.tmp 11) (.tmp 14) 24 28 (.agg #[(.int .i64 0), (.int .i64 0), (.int .i64 0)]) 24 rfl Try.underlying24 info28 rfl (by decide) (by omega) (.slice Ao10 t607.length co10) t607 (⟨t616, t617, t618⟩ : S28) [.int .i64 t616, .int .i64 t617, .int .i64 t618] (fun _ => True) (fun _ => False) rfl rfl ?aP (fun _ hk => hk.elim) ?aF ?aO (Below.refl _ _) ?aS ?aL ?_
  (case aP => exact k28_mkM _ _ _ (⟨t616, t617, t618⟩ : S28))
  (case aF => exact (fun _ _ => trivial))
  (case aO => exact (ro HO609))
  (case aS => exact (keep_size (w := w) (g := g) (row := none) (kk HK)))
  (case aL => have := LMc6.out; omega)
  intro v622 w17 ho hb hg hat
  rw [← Ny621.out] at ho
  replace BK1 := Aside0.mk (blk_grown (bk BK1) hg (Kd.R_ne HO609.out BK1.out (by decide)))
  replace BK2 := Aside0.mk (blk_grown (bk BK2) hg (Kd.R_ne HO609.out BK2.out (by decide)))
  replace HB := Aside0.mk (below_weaken (IsS81.bw HB HI0) HL.out hb)
  replace HI0 := Aside0.mk (IsS81.grown (IsS81.w HI0) hg (IsS81.own_ne HI0.out HO609.out (by decide)))
  replace HK := Aside0.mk (KeepBut.trans (kk HK) (KeepBut.of_grown hg g) (Kd.R_base2 HO609.out))
  have HO623 := Aside0.mk (ho)
  clear HO609
  clear ho hb hg hat
  obtain ⟨Ao18, co18, eo18⟩ := Kd.R_slice HO623.out
  (first | subst eo18 | (injection eo18 with f1_ f2_ f3_; have f4_ := f1_.symm; have f5_ := f3_.symm; clear f1_ f2_ f3_; subst f4_; subst f5_))
  refine hK.out _ _ (bc BK2 0) (fun hHeld => ?_)
  clear hK K
  refine normK (N := some 15) (h := ?_)
  refine pureK HT_ 6 (some 16) ?_
  refine last_ (i := 7) (N := none) #[true, true, true, true, true, true, true, true] rfl rfl (one_of HT_.out (by kernel_rfl)) (by decide) (fun K hK => ?_)
  have hs19 : w17.cell? ⟨gb2, 0, none⟩ = some (.slice Ao10 t607.length co10) := bc BK2 0
  have hfs19 := blk_frozen BK2.out 0
  have hns19_0 := NB1_2.out
  have hms19_0 := NB2_1.out
  refine skip_ (w1 := ?_) (by rfl) rfl ?_ ?_
  rotate_left
  ·
   go_simp
   rfl
  refine hK.out _ _ ?_
  clear hK K
  refine done_ (done_of HT_.out (by kernel_rfl)) ?_
  obtain ⟨hcz20_0, hfz20_0⟩ := kc1 BK2
  have hnb21 := up1 NB1_0
  obtain ⟨hcz22_0, hfz22_0⟩ := kc1 BK1
  try go_wp2
  refine bodyPost_ret (results_cell_row rfl _ _ gb1 26 #[.slice Ao18 y621.length co18] (0, 0) _ rfl (bt BK1) Try.underlying26 rfl (by kernel_rfl)) rfl ?_
  exact ⟨_, eqR, by (with_reducible repeat (first | apply Kd.R_alloc | apply Kd.R_drewN | apply Kd.R_drew)); exact Kd.R_mono (Kd.R_far (p := ⟨gb1, 0, none⟩) (Kd.R_far (p := ⟨gb2, 0, none⟩) (Kd.R_types (Kd.R_types HO623.out BK2.out (by decide)) BK1.out (by decide)) (fun _ hk => hk.1.2) (.slice Ao18 y621.length co18)) (fun _ hk => hk.2) (.slice Ao18 y621.length co18)) (fun _ hk => trivial), (IsS81.w HI0), (IsS81.bw HB HI0), (kk HK)⟩
 have c4b0 : (t613 == 0) = false := beq_eq_false_iff_ne.mpr c4
 have c4b1 : (t613 != 0) = true := bne_iff_ne.mpr c4
 replace H := iteC H; rcases H with ⟨c23, H⟩ | ⟨c23, H⟩
 rotate_left
 ·
  have c23b0 : (t613 == 1) = false := beq_eq_false_iff_ne.mpr c23
  have c23b1 : (t613 != 1) = true := bne_iff_ne.mpr c23
  simp only [Option.some.injEq, Prod.mk.injEq] at H
  obtain ⟨rfl, rfl, rfl⟩ := H
  go_enter Try.func59, Try.ntmps59
  go_wp2_with (first | ((with_reducible refine gate_dst (N := 2) rfl ?_); refine boxP (N := 2) (cs := #[.slice none 0 0]) (t := 26) (h := ?_); intro gb1 hg w52 hbox hb; replace HB := IsS81.kbw HB HI0 hb; have BK1 := Aside0.mk (hbox); have GW1 := gwk HK hg; have GE1 := gek HW0 (gwk HK hg); replace HK := kkb HK hb; have NB0_1 := IsS81.nl HI0 hg; have NB1_0 := ns (IsS81.nl HI0 hg); replace HI0 := IsS81.kb HI0 hb; clear hb hbox hg) | ((with_reducible refine gate_callee (f := 71) rfl ?_); refine goK (some 5) Try.func71 #[.pointer (some ⟨g, 0, none⟩), .int .i64 5] ?_; (with_reducible refine (spec_l1Cur_surePuzzle.calls k g s0_0 s0_1 s0_2 5 t607 t610 t611 w0 _ ?side1 ?side2 A2.out).mono ?_); (case side1 => exact IsS81.w HI0); (case side2 => exact IsS81.bw HB HI0); rintro e w53 ⟨v608, rfl, ho0, hi, hb, hk⟩; refine ⟨_, rfl, ?_⟩; replace BK1 := kbk BK1 NB1_0 hk; have HO609 := Aside0.mk (Kd.R_lower ho0 (keep_size (w := w) (g := g) (row := none) (kk HK))); replace HK := kkt HK hk; replace HB := Aside0.mk (hb); replace HI0 := Aside0.mk (hi); (try clear hb); (try clear hk); (try clear hi); (try clear ho0)) | ((with_reducible refine gate_dst (N := 3) rfl ?_); refine boxP (N := 3) (cs := #[.slice none 0 0]) (t := 26) (h := ?_); intro gb2 hg w54 hbox hb; replace HO609 := ko HO609 hb; replace HB := IsS81.kbw HB HI0 hb; have BK2 := Aside0.mk (hbox); have GW2 := gwk HK hg; have GE2 := gek HW0 (gwk HK hg); replace HK := kkb HK hb; obtain ⟨NB1_2, NB2_1⟩ := nv1 hg BK1; replace BK1 := kb BK1 hb; have NB0_2 := IsS81.nl HI0 hg; have NB2_0 := ns (IsS81.nl HI0 hg); replace HI0 := IsS81.kb HI0 hb; clear hb hbox hg; obtain ⟨Ao55, co55, eo55⟩ := Kd.R_slice HO609.out; subst eo55; have hnb56 := up2 NB2_1 NB2_0; obtain ⟨hcz58_0, hfz58_0⟩ := kc1 BK2) | ((with_reducible refine gate_callee (f := 58) rfl ?_); refine goK (some 7) Try.func58 #[.pointer (some ⟨g, 0, none⟩), .int .i64 12] ?_; (with_reducible refine (spec_l1Cur_pick.calls g s0_0 t610 t611 12 t613 t614 t615 w0 _ ?side1 ?side2 A3.out).mono ?_); (case side1 => exact IsS81.w HI0); (case side2 => exact IsS81.bw HB HI0); rintro e w59 ⟨rfl, hi, hb, hk⟩; refine ⟨_, rfl, ?_⟩; replace BK1 := Aside0.mk (KeepBut.blk hk (g' := gb1) (o := .cells #[.slice none 0 0] 26 (0, 0)) (bf BK1 NB1_2) NB1_0.out (by simp)); replace HO609 := Aside0.mk (Kd.R_mono (Kd.R_keep (IsS81.apart (show IsS81 w0 _ g s0_0 t610 t611 from (IsS81.w HI0)) (by (with_reducible repeat (first | apply Kd.R_alloc | apply Kd.R_drewN | apply Kd.R_drew)); exact (Kd.R_mono (Kd.R_far (p := ⟨gb2, 0, none⟩) (Kd.R_types HO609.out BK2.out (by decide)) (fun _ hk => hk.2) (.slice Ao55 t607.length co55)) (fun _ h_ => h_.1))) (by decide)) hk (fun _ h => h.2)) (fun _ h => h.1)); replace BK2 := Aside0.mk (KeepBut.blk hk (g' := gb2) (o := .cells #[.slice Ao55 t607.length co55] 26 (0, 0)) (bt BK2) NB2_0.out (by simp)); replace HK := kkt HK hk; replace HB := Aside0.mk (hb); replace HI0 := Aside0.mk (hi); (try clear hb); (try clear hk); (try clear hi); obtain ⟨hcz60_0, hfz60_0⟩ := kc1 BK2; have hnb61 := up1 NB1_0; obtain ⟨hcz62_0, hfz62_0⟩ := kc1 BK1))
  refine bodyPost_ret (results_cell_row rfl _ _ gb1 26 #[.slice Ao55 t607.length co55] (0, 0) _ rfl (bt BK1) Try.underlying26 rfl (by kernel_rfl)) rfl ?_
  exact ⟨_, eqR, by (with_reducible repeat (first | apply Kd.R_alloc | apply Kd.R_drewN | apply Kd.R_drew)); exact Kd.R_mono (Kd.R_far (p := ⟨gb1, 0, none⟩) (Kd.R_types HO609.out BK1.out (by decide)) (fun _ hk => hk.2) (.slice Ao55 t607.length co55)) (fun _ hk => trivial), (IsS81.w HI0), (IsS81.bw HB HI0), (kk HK)⟩
 have c23b0 : (t613 == 1) = true := beq_iff_eq.mpr c23
 have c23b1 : (t613 != 1) = false := bne_eq_false_iff_eq.mpr c23
 clear c23
 have H' := Aside0.mk H
 clear H
 go_enter Try.func59, Try.ntmps59
 go_wp2_with (first | ((with_reducible refine gate_dst (N := 2) rfl ?_); refine boxP (N := 2) (cs := #[.slice none 0 0]) (t := 26) (h := ?_); intro gb1 hg w24 hbox hb; replace HB := IsS81.kbw HB HI0 hb; have BK1 := Aside0.mk (hbox); have GW1 := gwk HK hg; have GE1 := gek HW0 (gwk HK hg); replace HK := kkb HK hb; have NB0_1 := IsS81.nl HI0 hg; have NB1_0 := ns (IsS81.nl HI0 hg); replace HI0 := IsS81.kb HI0 hb; clear hb hbox hg) | ((with_reducible refine gate_callee (f := 71) rfl ?_); refine goK (some 5) Try.func71 #[.pointer (some ⟨g, 0, none⟩), .int .i64 5] ?_; (with_reducible refine (spec_l1Cur_surePuzzle.calls k g s0_0 s0_1 s0_2 5 t607 t610 t611 w0 _ ?side1 ?side2 A2.out).mono ?_); (case side1 => exact IsS81.w HI0); (case side2 => exact IsS81.bw HB HI0); rintro e w25 ⟨v608, rfl, ho0, hi, hb, hk⟩; refine ⟨_, rfl, ?_⟩; replace BK1 := kbk BK1 NB1_0 hk; have HO609 := Aside0.mk (Kd.R_lower ho0 (keep_size (w := w) (g := g) (row := none) (kk HK))); replace HK := kkt HK hk; replace HB := Aside0.mk (hb); replace HI0 := Aside0.mk (hi); (try clear hb); (try clear hk); (try clear hi); (try clear ho0)) | ((with_reducible refine gate_dst (N := 3) rfl ?_); refine boxP (N := 3) (cs := #[.slice none 0 0]) (t := 26) (h := ?_); intro gb2 hg w26 hbox hb; replace HO609 := ko HO609 hb; replace HB := IsS81.kbw HB HI0 hb; have BK2 := Aside0.mk (hbox); have GW2 := gwk HK hg; have GE2 := gek HW0 (gwk HK hg); replace HK := kkb HK hb; obtain ⟨NB1_2, NB2_1⟩ := nv1 hg BK1; replace BK1 := kb BK1 hb; have NB0_2 := IsS81.nl HI0 hg; have NB2_0 := ns (IsS81.nl HI0 hg); replace HI0 := IsS81.kb HI0 hb; clear hb hbox hg; obtain ⟨Ao27, co27, eo27⟩ := Kd.R_slice HO609.out; subst eo27; have hnb28 := up2 NB2_1 NB2_0; obtain ⟨hcz30_0, hfz30_0⟩ := kc1 BK2) | ((with_reducible refine gate_callee (f := 58) rfl ?_); refine goK (some 7) Try.func58 #[.pointer (some ⟨g, 0, none⟩), .int .i64 12] ?_; (with_reducible refine (spec_l1Cur_pick.calls g s0_0 t610 t611 12 t613 t614 t615 w0 _ ?side1 ?side2 A3.out).mono ?_); (case side1 => exact IsS81.w HI0); (case side2 => exact IsS81.bw HB HI0); rintro e w31 ⟨rfl, hi, hb, hk⟩; refine ⟨_, rfl, ?_⟩; replace BK1 := Aside0.mk (KeepBut.blk hk (g' := gb1) (o := .cells #[.slice none 0 0] 26 (0, 0)) (bf BK1 NB1_2) NB1_0.out (by simp)); replace HO609 := Aside0.mk (Kd.R_mono (Kd.R_keep (IsS81.apart (show IsS81 w0 _ g s0_0 t610 t611 from (IsS81.w HI0)) (by (with_reducible repeat (first | apply Kd.R_alloc | apply Kd.R_drewN | apply Kd.R_drew)); exact (Kd.R_mono (Kd.R_far (p := ⟨gb2, 0, none⟩) (Kd.R_types HO609.out BK2.out (by decide)) (fun _ hk => hk.2) (.slice Ao27 t607.length co27)) (fun _ h_ => h_.1))) (by decide)) hk (fun _ h => h.2)) (fun _ h => h.1)); replace BK2 := Aside0.mk (KeepBut.blk hk (g' := gb2) (o := .cells #[.slice Ao27 t607.length co27] 26 (0, 0)) (bt BK2) NB2_0.out (by simp)); replace HK := kkt HK hk; replace HB := Aside0.mk (hb); replace HI0 := Aside0.mk (hi); (try clear hb); (try clear hk); (try clear hi)))
 go_loopg [] k (fun kq w' => ∃ (x1001_1 : Int) (x1002_1 : Int) (x613000_1 : List (S28)) (u613000 : Value), Aside0 (spec_l1Cur_puzzle.l0 kq s0_0 x1001_1 x1002_1 x613000_1 = some (r1, r2, r3)) ∧ Aside0 (kq ≤ k) ∧ Aside0 (Kd.R k28 28 w' w.heap.size (fun _ => True) u613000 x613000_1) ∧ Aside0 (w'.heap[gb1]? = some (.cells #[(.slice none 0 0)] 26 (0, 0))) ∧ Aside0 (w'.heap[gb2]? = some (.cells #[u613000] 26 (0, 0))) ∧ Aside0 (IsS81 w0 w' g s0_0 x1001_1 x1002_1) ∧ Aside0 (KeepBut w w' g none) ∧ Aside0 (Below w0.heap.size w0 w'))
 case atStart => exact ⟨(t614), (t615), (t607), (.slice Ao27 t607.length co27), H', ⟨Nat.le_refl _⟩, ⟨ro HO609⟩, ⟨bk BK1⟩, ⟨bk BK2⟩, ⟨(IsS81.w HI0)⟩, ⟨(kk HK)⟩, ⟨(IsS81.bw HB HI0)⟩⟩
 case round =>
  clear H'
  try clear c4
  try clear c4b0
  try clear c4b1
  try clear c23
  try clear c23b0
  try clear c23b1
  try clear hcz30_0
  try clear hfz30_0
  obtain ⟨x1001_1, x1002_1, x613000_1, u613000, HA, HK1, HO_613000, BK1, BK2, HI0, HK, HB⟩ := hrel
  cases gk with
  | zero => exact absurd HA.out (by simp [spec_l1Cur_puzzle.l0])
  | succ k1 =>
   have H := HA.out
   clear HA
   simp only [spec_l1Cur_puzzle.l0] at H
   replace H := bindS H; obtain ⟨⟨t624, t625, t626⟩, A32, H⟩ := H
   replace H := iteC H; rcases H with ⟨c33, H⟩ | ⟨c33, H⟩
   rotate_left
   ·
    have c33b0 : decide ((x613000_1.length : Int) < (wrap64 (6 + t624))) = false := decide_eq_false c33
    clear c33
    simp only [Option.some.injEq, Prod.mk.injEq] at H
    obtain ⟨rfl, rfl, rfl⟩ := H
    try go_wp2
    replace HO_613000 := od HO_613000
    refine md2 BK1 BK2 ?_
    clear BK1 BK2
    intro BK1 BK2
    replace HI0 := Aside0.mk (IsS81.drew HI0.out)
    replace HK := Aside0.mk (keep_drew HK.out)
    replace HB := Aside0.mk (below_drew1 HB.out)
    obtain ⟨Ao45, co45, eo45⟩ := Kd.R_slice HO_613000.out
    (first | subst eo45 | (injection eo45 with f1_ f2_ f3_; have f4_ := f1_.symm; have f5_ := f3_.symm; clear f1_ f2_ f3_; subst f4_; subst f5_))
    refine start_ (n := 7) (S := fun w' => w'.cell? ⟨gb2, 0, none⟩ = some (.slice Ao45 x613000_1.length co45)) (ds := []) #[false, false, false, false, false, false, false] (by kernel_rfl) rfl rfl (bc BK2 0) (fun hHeld => ?_)
    generalize wr.drew = w44 at HO_613000 BK1 BK2 HI0 HK HB hHeld ⊢
    refine pure_ (i := 0) (N := some 19) (v := ?_) (a' := ?_) #[true, false, false, false, false, false, false] rfl rfl (by kernel_rfl) (fun _ _ _ h => h) (Or.inl ⟨by rfl, ?_⟩) ?_ ?_
    rotate_left
    ·
     intro w'
     go_simp
     with_reducible rfl
    rotate_left
    ·
     simp only [Act.put, List.setIfInBounds_toArray, List.set_cons_zero, List.set_cons_succ, i64_w, i32_w]
     rfl
    refine pure_ (i := 3) (N := some 22) (v := ?_) (a' := ?_) #[true, false, false, true, false, false, false] rfl rfl (by kernel_rfl) (fun _ _ _ h => h) (Or.inl ⟨by rfl, ?_⟩) ?_ ?_
    rotate_left
    ·
     intro w'
     go_simp
     with_reducible rfl
    rotate_left
    ·
     simp only [Act.put, List.setIfInBounds_toArray, List.set_cons_zero, List.set_cons_succ, i64_w, i32_w]
     rfl
    refine take_ (i := 1) (N := some 20) (v := ?_) (a' := ?_) #[true, true, false, true, false, false, false] rfl rfl (by kernel_rfl) (fun _ _ _ h => h) (Or.inl ⟨by rfl, ?_⟩) hHeld ?_ ?_
    rotate_left
    ·
     intro w' s0
     go_simp
     with_reducible rfl
    rotate_left
    ·
     simp only [Act.put, List.setIfInBounds_toArray, List.set_cons_zero, List.set_cons_succ, i64_w, i32_w]
     rfl
    refine pure_ (i := 2) (N := some 21) (v := ?_) (a' := ?_) #[true, true, true, true, false, false, false] rfl rfl (by kernel_rfl) (fun _ _ _ h => h) (Or.inl ⟨by rfl, ?_⟩) ?_ ?_
    rotate_left
    ·
     intro w'
     go_simp
     with_reducible rfl
    rotate_left
    ·
     simp only [Act.put, List.setIfInBounds_toArray, List.set_cons_zero, List.set_cons_succ, i64_w, i32_w]
     rfl
    refine one_ (i := 4) (N := some 23) #[true, true, true, true, true, false, false] rfl rfl (by kernel_rfl) (by decide) (fun K hK => ?_)
    refine goes_ Try.func58 (by kernel_rfl) rfl #[.pointer (some ⟨g, 0, none⟩), .int .i64 2] (by rfl) rfl rfl argR ?_
    with_reducible refine (spec_l1Cur_pick.calls g s0_0 x1001_1 x1002_1 2 t624 t625 t626 w0 _ ?side1 ?side2 A32.out).mono ?_
    (case side1 => exact IsS81.w HI0)
    (case side2 => exact IsS81.bw HB HI0)
    rintro e w46 ⟨rfl, hi, hb, hk⟩
    refine ⟨_, rfl, ?_⟩
    replace HO_613000 := Aside0.mk (Kd.R_mono (Kd.R_keep (IsS81.apart (show IsS81 w0 _ g s0_0 x1001_1 x1002_1 from (IsS81.w HI0)) (ro HO_613000) (by decide)) hk (fun _ h => h.2)) (fun _ h => h.1))
    replace BK1 := kbk BK1 NB1_0 hk
    replace BK2 := kbk BK2 NB2_0 hk
    replace HK := kkt HK hk
    replace HB := Aside0.mk (hb)
    replace HI0 := Aside0.mk (hi)
    (try clear hb)
    (try clear hb2)
    (try clear hk)
    (try clear hi)
    refine hK.out _ _ (bc BK2 0) (fun hHeld => ?_)
    clear hK K
    refine normK (N := some 23) (h := ?_)
    refine pure_ (i := 5) (N := some 24) (v := ?_) (a' := ?_) #[true, true, true, true, true, true, false] rfl rfl (by kernel_rfl) (fun _ _ _ h => h) (Or.inl ⟨by rfl, ?_⟩) ?_ ?_
    rotate_left
    ·
     intro w'
     go_simp
     with_reducible rfl
    rotate_left
    ·
     simp only [Act.put, List.setIfInBounds_toArray, List.set_cons_zero, List.set_cons_succ, i64_w, i32_w]
     rfl
    refine pure_ (i := 6) (N := some 25) (v := ?_) (a' := ?_) #[true, true, true, true, true, true, true] rfl rfl (by kernel_rfl) (fun _ _ _ h => h) (Or.inl ⟨by rfl, ?_⟩) ?_ ?_
    rotate_left
    ·
     intro w'
     go_simp
     with_reducible rfl
    rotate_left
    ·
     simp only [Act.put, List.setIfInBounds_toArray, List.set_cons_zero, List.set_cons_succ, i64_w, i32_w]
     rfl
    refine done_ (by kernel_rfl) ?_
    have hnb47 := up2 NB2_1 NB2_0
    obtain ⟨hcz49_0, hfz49_0⟩ := kc1 BK2
    have hnb50 := up1 NB1_0
    obtain ⟨hcz51_0, hfz51_0⟩ := kc1 BK1
    try go_wp2
    refine bodyPost_ret (results_cell_row rfl _ _ gb1 26 #[.slice Ao45 x613000_1.length co45] (0, 0) _ rfl (bt BK1) Try.underlying26 rfl (by kernel_rfl)) rfl ?_
    exact ⟨_, eqR, by (with_reducible repeat (first | apply Kd.R_alloc | apply Kd.R_drewN | apply Kd.R_drew)); exact Kd.R_mono (Kd.R_far (p := ⟨gb1, 0, none⟩) (Kd.R_types HO_613000.out BK1.out (by decide)) (fun _ hk => hk.2) (.slice Ao45 x613000_1.length co45)) (fun _ hk => trivial), (IsS81.w HI0), (IsS81.bw HB HI0), (kk HK)⟩
   have c33b0 : decide ((x613000_1.length : Int) < (wrap64 (6 + t624))) = true := decide_eq_true c33
   clear c33
   replace H := iteS H; obtain ⟨c34, H⟩ := H
   have LMc34 := Aside0.mk c34
   clear c34
   obtain ⟨y627, hy627⟩ : ∃ y_ : List (S28), y_ = (x613000_1 ++ [(⟨2, 0, 9⟩ : S28)]) := ⟨_, rfl⟩
   replace H : (spec_l1Cur_puzzle.l0 k1 s0_0 t625 t626 y627) = some (r1, r2, r3) := by first | (rw [hy627]; with_reducible exact H) | (have H2_ := (Option.bind_some _ _).symm.trans H; first | (rw [hy627]; with_reducible exact H2_) | with_reducible exact H2_) | with_reducible exact H | (rw [hy627]; exact H) | exact H
   have Ny627 := Aside0.mk hy627
   clear hy627
   have H' := Aside0.mk H
   clear H
   try go_wp2
   replace HO_613000 := od HO_613000
   refine md2 BK1 BK2 ?_
   clear BK1 BK2
   intro BK1 BK2
   replace HI0 := Aside0.mk (IsS81.drew HI0.out)
   replace HK := Aside0.mk (keep_drew HK.out)
   replace HB := Aside0.mk (below_drew1 HB.out)
   obtain ⟨Ao36, co36, eo36⟩ := Kd.R_slice HO_613000.out
   (first | subst eo36 | (injection eo36 with f1_ f2_ f3_; have f4_ := f1_.symm; have f5_ := f3_.symm; clear f1_ f2_ f3_; subst f4_; subst f5_))
   refine start_ (n := 7) (S := fun w' => w'.cell? ⟨gb2, 0, none⟩ = some (.slice Ao36 x613000_1.length co36)) (ds := []) #[false, false, false, false, false, false, false] (by kernel_rfl) rfl rfl (bc BK2 0) (fun hHeld => ?_)
   generalize wr.drew = w35 at HO_613000 BK1 BK2 HI0 HK HB hHeld ⊢
   refine pure_ (i := 0) (N := some 19) (v := ?_) (a' := ?_) #[true, false, false, false, false, false, false] rfl rfl (by kernel_rfl) (fun _ _ _ h => h) (Or.inl ⟨by rfl, ?_⟩) ?_ ?_
   rotate_left
   ·
    intro w'
    go_simp
    with_reducible rfl
   rotate_left
   ·
    simp only [Act.put, List.setIfInBounds_toArray, List.set_cons_zero, List.set_cons_succ, i64_w, i32_w]
    rfl
   refine pure_ (i := 3) (N := some 22) (v := ?_) (a' := ?_) #[true, false, false, true, false, false, false] rfl rfl (by kernel_rfl) (fun _ _ _ h => h) (Or.inl ⟨by rfl, ?_⟩) ?_ ?_
   rotate_left
   ·
    intro w'
    go_simp
    with_reducible rfl
   rotate_left
   ·
    simp only [Act.put, List.setIfInBounds_toArray, List.set_cons_zero, List.set_cons_succ, i64_w, i32_w]
    rfl
   refine take_ (i := 1) (N := some 20) (v := ?_) (a' := ?_) #[true, true, false, true, false, false, false] rfl rfl (by kernel_rfl) (fun _ _ _ h => h) (Or.inl ⟨by rfl, ?_⟩) hHeld ?_ ?_
   rotate_left
   ·
    intro w' s0
    go_simp
    with_reducible rfl
   rotate_left
   ·
    simp only [Act.put, List.setIfInBounds_toArray, List.set_cons_zero, List.set_cons_succ, i64_w, i32_w]
    rfl
   refine pure_ (i := 2) (N := some 21) (v := ?_) (a' := ?_) #[true, true, true, true, false, false, false] rfl rfl (by kernel_rfl) (fun _ _ _ h => h) (Or.inl ⟨by rfl, ?_⟩) ?_ ?_
   rotate_left
   ·
    intro w'
    go_simp
    with_reducible rfl
   rotate_left
   ·
    simp only [Act.put, List.setIfInBounds_toArray, List.set_cons_zero, List.set_cons_succ, i64_w, i32_w]
    rfl
   refine one_ (i := 4) (N := some 23) #[true, true, true, true, true, false, false] rfl rfl (by kernel_rfl) (by decide) (fun K hK => ?_)
   refine goes_ Try.func58 (by kernel_rfl) rfl #[.pointer (some ⟨g, 0, none⟩), .int .i64 2] (by rfl) rfl rfl argR ?_
   with_reducible refine (spec_l1Cur_pick.calls g s0_0 x1001_1 x1002_1 2 t624 t625 t626 w0 _ ?side1 ?side2 A32.out).mono ?_
   (case side1 => exact IsS81.w HI0)
   (case side2 => exact IsS81.bw HB HI0)
   rintro e w37 ⟨rfl, hi, hb, hk⟩
   refine ⟨_, rfl, ?_⟩
   replace HO_613000 := Aside0.mk (Kd.R_mono (Kd.R_keep (IsS81.apart (show IsS81 w0 _ g s0_0 x1001_1 x1002_1 from (IsS81.w HI0)) (ro HO_613000) (by decide)) hk (fun _ h => h.2)) (fun _ h => h.1))
   replace BK1 := kbk BK1 NB1_0 hk
   replace BK2 := kbk BK2 NB2_0 hk
   replace HK := kkt HK hk
   replace HB := Aside0.mk (hb)
   replace HI0 := Aside0.mk (hi)
   (try clear hb)
   (try clear hb2)
   (try clear hk)
   (try clear hi)
   refine hK.out _ _ (bc BK2 0) (fun hHeld => ?_)
   clear hK K
   refine normK (N := some 23) (h := ?_)
   refine pure_ (i := 5) (N := some 24) (v := ?_) (a' := ?_) #[true, true, true, true, true, true, false] rfl rfl (by kernel_rfl) (fun _ _ _ h => h) (Or.inl ⟨by rfl, ?_⟩) ?_ ?_
   rotate_left
   ·
    intro w'
    go_simp
    with_reducible rfl
   rotate_left
   ·
    simp only [Act.put, List.setIfInBounds_toArray, List.set_cons_zero, List.set_cons_succ, i64_w, i32_w]
    rfl
   refine pure_ (i := 6) (N := some 25) (v := ?_) (a' := ?_) #[true, true, true, true, true, true, true] rfl rfl (by kernel_rfl) (fun _ _ _ h => h) (Or.inl ⟨by rfl, ?_⟩) ?_ ?_
   rotate_left
   ·
    intro w'
    go_simp
    with_reducible rfl
   rotate_left
   ·
    simp only [Act.put, List.setIfInBounds_toArray, List.set_cons_zero, List.set_cons_succ, i64_w, i32_w]
    rfl
   refine done_ (by kernel_rfl) ?_
   have hnb38 := up2 NB2_1 NB2_0
   obtain ⟨hcz40_0, hfz40_0⟩ := kc1 BK2
   try go_wp2_with (first | ((with_reducible refine gate_builtin (b := .append) (xs := #[.tmp 27, .tmp 29]) rfl ?_); at_builtin; refine Kd.R_append k28 w.heap.size rfl (.tmp 27) (.tmp 29) 24 28 (.agg #[(.int .i64 0), (.int .i64 0), (.int .i64 0)]) 24 rfl Try.underlying24 info28 rfl (by decide) (by omega) (.slice Ao36 x613000_1.length co36) x613000_1 (⟨2, 0, 9⟩ : S28) [.int .i64 2, .int .i64 0, .int .i64 9] (fun _ => True) (fun _ => False) rfl rfl ?aP (fun _ hk => hk.elim) ?aF ?aO (Below.refl _ _) ?aS ?aL ?_; (case aP => exact k28_mkM _ _ _ (⟨2, 0, 9⟩ : S28)); (case aF => exact (fun _ _ => trivial)); (case aO => exact (ro HO_613000)); (case aS => exact (keep_size (w := w) (g := g) (row := none) (kk HK))); (case aL => have := LMc34.out; omega); intro v628 w41 ho hb hg hat; rw [← Ny627.out] at ho; replace BK1 := Aside0.mk (blk_grown (bk BK1) hg (Kd.R_ne HO_613000.out BK1.out (by decide))); replace BK2 := Aside0.mk (blk_grown (bk BK2) hg (Kd.R_ne HO_613000.out BK2.out (by decide))); replace HB := Aside0.mk (below_weaken (IsS81.bw HB HI0) HL.out hb); replace HI0 := Aside0.mk (IsS81.grown (IsS81.w HI0) hg (IsS81.own_ne HI0.out HO_613000.out (by decide))); replace HK := Aside0.mk (KeepBut.trans (kk HK) (KeepBut.of_grown hg g) (Kd.R_base2 HO_613000.out)); have HO629 := Aside0.mk (ho); clear HO_613000; clear ho hb hg hat; obtain ⟨Ao42, co42, eo42⟩ := Kd.R_slice HO629.out; subst eo42; obtain ⟨hcz43_0, hfz43_0⟩ := kc1 BK2))
   go_roundg k1
   case measure => have := HK1.out; omega
   case rel => exact ⟨(t625), (t626), (y627), (.slice Ao42 y627.length co42), H', ⟨by have := HK1.out; omega⟩, ⟨by (with_reducible repeat (first | apply Kd.R_alloc | apply Kd.R_drewN | apply Kd.R_drew)); exact Kd.R_mono (Kd.R_far (p := ⟨gb2, 0, none⟩) (Kd.R_types HO629.out BK2.out (by decide)) (fun _ hk => hk.2) (.slice Ao42 y627.length co42)) (fun _ hk => trivial)⟩, ⟨bf BK1 NB1_2⟩, ⟨bt BK2⟩, ⟨(IsS81.w HI0)⟩, ⟨(kk HK)⟩, ⟨(IsS81.bw HB HI0)⟩⟩

end Go.Proofs.Ytlpjooijkeadbaa.PH
