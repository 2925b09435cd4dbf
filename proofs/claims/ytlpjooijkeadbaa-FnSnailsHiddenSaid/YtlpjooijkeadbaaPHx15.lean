-- Written by a program of our own (wip/tools/xprint.py) for this claim; Lean checks it.
import Derived.Test.YtlpjooijkeadbaaPHx0
import Derived.Test.YtlpjooijkeadbaaPHx4
import Derived.Test.YtlpjooijkeadbaaPHx12
namespace Go.Proofs.Ytlpjooijkeadbaa.PH
open Go.RowKit Go.Proofs.YtlpjooijkeadbaaK Go.Proofs.YtlpjooijkeadbaaW.PrintWords Go.Proofs.YtlpjooijkeadbaaW.PrintLast Go.Proofs.YtlpjooijkeadbaaW.PrintMore
attribute [local go_sem] max2_int min2_int max_two min_two max_three min_three max_four min_four   -- for this text's walks alone
set_option linter.unusedVariables false
set_option linter.unusedSimpArgs false

/-! ### spec_DrawDoesFit: function 30 -/
def spec_DrawDoesFit.j0 : Nat → Bool → List Int → Int → Int → Int → Int → List (S28) → Option (Int × Int × Int × Int × Int)
  | 0, _, _, _, _, _, _, _ => none
  | k + 1, x24, x697000, x697001, x697002, x702000, x702001, x710000 => if x24 = true then (if 0 < (x710000.length : Int) then (some ((rd_T28 x710000 0).f0, (rd_T28 x710000 0).f1, (rd_T28 x710000 0).f2, x702000, x702001)) else (none)) else ((spec_l1Cur_one.f x697000 x697001 x697002 10).bind fun bt714 => (if bt714.1 = true then ((spec_l1Cur_snail.f x697000 bt714.2.1 bt714.2.2).bind fun bt717 => ((spec_l1Cur_clue.f k x697000 bt717.2.2.1 bt717.2.2.2).bind fun bt721 => (some (bt721.1, bt721.2.1, bt721.2.2.1, bt717.1, bt717.2.1)))) else ((spec_l1Cur_clue.f k x697000 bt714.2.1 bt714.2.2).bind fun bt726 => (some (bt726.1, bt726.2.1, bt726.2.2.1, x702000, x702001)))))
def spec_DrawDoesFit.f (k : Nat) (l0 : List Int) : Option (Int × Int × Int × Int × Int) := (spec_l1Cur_hidden.f l0 0 0).bind fun bt697 => ((spec_l1Cur_pick.f l0 bt697.2.2.1 bt697.2.2.2 10000).bind fun bt702 => ((spec_MakePuzzle.f k bt697.1 bt697.2.1 1 bt702.1).bind fun bt705 => (if bt705.2 = true then ((spec_l1Cur_one.f l0 bt702.2.1 bt702.2.2 3).bind fun bt710 => (spec_DrawDoesFit.j0 k bt710.1 l0 bt710.2.1 bt710.2.2 bt697.1 bt697.2.1 bt705.1)) else (spec_DrawDoesFit.j0 k false l0 bt702.2.1 bt702.2.2 bt697.1 bt697.2.1 bt705.1))))
def spec_DrawDoesFit.T3 : Bool × List (List Nat × List Nat) := (true, [([], []), ([], []), ([1], [1]), ([0, 2, 2], [0, 2]), ([3], [3]), ([4], [4]), ([4], [4]), ([], []), ([7, 5, 3, 0, 1, 2, 3, 4, 5, 7], [5, 7]), ([6, 8, 0, 1, 2, 3, 4, 5, 6, 7, 8], [6])])
def spec_DrawDoesFit.B3 : List Nat := [0, 0, 2, 7, 15, 31, 31, 0, 191, 511]
theorem spec_DrawDoesFit.tab3 : rtab .any (opsOf Try.f30 3) = spec_DrawDoesFit.T3 := by kernel_rfl
theorem spec_DrawDoesFit.bits3 : waitsOk spec_DrawDoesFit.T3.2 spec_DrawDoesFit.B3 = true := by kernel_rfl
set_option maxHeartbeats 8000000 in
set_option maxRecDepth 100000 in
theorem spec_DrawDoesFit.calls (k : Nat) (A0 : Option Addr) (c0 : Nat) (l0 : List Int) (r1 : Int) (r2 : Int) (r3 : Int) (r4 : Int) (r5 : Int) (w : World) (hr0 : Kd.C (Kd.int .u8) w A0 l0.length l0) (hc0 : l0.length ≤ c0) (h : spec_DrawDoesFit.f k l0 = some (r1, r2, r3, r4, r5)) :
    Calls Try.prog 30 #[.slice A0 l0.length c0] w fun e w' => e = .returned (.tuple #[.agg #[.int .i64 r1, .int .i64 r2, .int .i64 r3], .agg #[.int .i64 r4, .int .i64 r5]]) ∧ Below w.heap.size w w' := by
 have hu28 := Try.underlying28
 have hu23 := Try.underlying23
 have hu81 := Try.underlying81
 have hu26 := Try.underlying26
 have HR0 := Aside0.mk hr0
 have HC0 := Aside0.mk hc0
 clear hr0 hc0
 have HB := Aside0.mk (Below.refl w.heap.size w)
 have H : ((spec_l1Cur_hidden.f l0 0 0).bind fun bt697 => ((spec_l1Cur_pick.f l0 bt697.2.2.1 bt697.2.2.2 10000).bind fun bt702 => ((spec_MakePuzzle.f k bt697.1 bt697.2.1 1 bt702.1).bind fun bt705 => (if bt705.2 = true then ((spec_l1Cur_one.f l0 bt702.2.1 bt702.2.2 3).bind fun bt710 => (spec_DrawDoesFit.j0 k bt710.1 l0 bt710.2.1 bt710.2.2 bt697.1 bt697.2.1 bt705.1)) else (spec_DrawDoesFit.j0 k false l0 bt702.2.1 bt702.2.2 bt697.1 bt697.2.1 bt705.1))))) = some (r1, r2, r3, r4, r5) := h
 clear h
 replace H := bindS H; obtain ⟨⟨t697, t698, t699, t700⟩, A2, H⟩ := H
 replace H := bindS H; obtain ⟨⟨t702, t703, t704⟩, A3, H⟩ := H
 replace H := bindS H; obtain ⟨⟨t705, t708⟩, A4, H⟩ := H
 have HC5 := Aside0.mk H
 clear H
 go_enter Try.func30, Try.ntmps30
 try go_wp2_with (first | ((with_reducible refine gate_dst (N := 2) rfl ?_); refine boxK HB (N := 2) (cs := #[.int .i64 0, .int .i64 0, .int .i64 0]) (t := 28) (h := ?_); clear HB; intro gb1 hg w6 BK1 GW1 GE1 HB hb; clear hb hg) | ((with_reducible refine gate_dst (N := 3) rfl ?_); refine boxK HB (N := 3) (cs := #[.int .i64 0, .int .i64 0]) (t := 23) (h := ?_); clear HB; intro gb2 hg w7 BK2 GW2 GE2 HB hb; obtain ⟨NB1_2, NB2_1⟩ := nv1 hg BK1; replace BK1 := kb BK1 hb; clear hb hg) | ((with_reducible refine gate_dst (N := 10) rfl ?_); refine boxP (N := 10) (cs := #[.slice A0 l0.length c0, .int .i64 0, .int .u64 0]) (t := 81) (h := ?_); intro gb3 hg w8 hbox hb; obtain ⟨NB1_3, NB3_1, NB2_3, NB3_2⟩ := nv2 hg BK1 BK2; refine mv2 hb BK1 BK2 ?_; clear BK1 BK2; intro BK1 BK2; have HI696 := Aside0.mk ((⟨_, _, hbox, (by rw [hg]; exact (below_size (bw HB))), HR0.out⟩ : IsS81 w w8 gb3 l0 0 0)); replace HB := kw HB hb; clear hb hbox hg) | ((with_reducible refine gate_callee (f := 57) rfl ?_); refine goK (some 12) Try.func57 #[.pointer (some ⟨gb3, 0, none⟩)] ?_; (with_reducible refine (spec_l1Cur_hidden.calls gb3 l0 0 0 t697 t698 t699 t700 w _ ?side1 ?side2 A2.out).mono ?_); (case side1 => exact IsS81.w HI696); (case side2 => exact IsS81.bw HB HI696); rintro e w9 ⟨rfl, hi, hb, hk⟩; refine ⟨_, rfl, ?_⟩; replace BK1 := kbk BK1 NB1_3 hk; replace BK2 := kbk BK2 NB2_3 hk; replace HB := Aside0.mk (hb); replace HI696 := Aside0.mk (hi); (try clear hb); (try clear hk); (try clear hi)) | ((with_reducible refine gate_dst (N := 5) rfl ?_); refine boxP (N := 5) (cs := #[.int .i64 0, .int .i64 0]) (t := 23) (h := ?_); intro gb4 hg w10 hbox hb; have BK4 := Aside0.mk (hbox); have GW4 := Aside0.mk ((by rw [hg]; exact (below_size (IsS81.bw HB HI696)) : w.heap.size ≤ gb4)); have GE4 := Aside0.mk ((by rw [hg]; exact (below_size (IsS81.bw HB HI696)) : w.heap.size ≤ gb4)); replace HB := IsS81.kbw HB HI696 hb; obtain ⟨NB1_4, NB4_1, NB2_4, NB4_2⟩ := nv2 hg BK1 BK2; refine mv2 hb BK1 BK2 ?_; clear BK1 BK2; intro BK1 BK2; have NB3_4 := IsS81.nl HI696 hg; have NB4_3 := ns (IsS81.nl HI696 hg); replace HI696 := IsS81.kb HI696 hb; clear hb hbox hg; have hnb11 := up3 NB4_1 NB4_2 NB4_3; obtain ⟨hcz14_0, hcz14_1, hfz14_0, hfz14_1⟩ := kc2 BK4))
 have n0_ : Aside0 (((w10.setCell ⟨gb4, 0, none⟩ (.int .i64 t697)).setCell ⟨gb4, 1, none⟩ (.int .i64 t698)).heap[gb1]? = some (.cells #[.int .i64 0, .int .i64 0, .int .i64 0] 28 (0, 0))) := ⟨bf2 BK1 NB1_4 NB1_4⟩
 have n1_ : Aside0 (((w10.setCell ⟨gb4, 0, none⟩ (.int .i64 t697)).setCell ⟨gb4, 1, none⟩ (.int .i64 t698)).heap[gb2]? = some (.cells #[.int .i64 0, .int .i64 0] 23 (0, 0))) := ⟨bf2 BK2 NB2_4 NB2_4⟩
 have n2_ : Aside0 (((w10.setCell ⟨gb4, 0, none⟩ (.int .i64 t697)).setCell ⟨gb4, 1, none⟩ (.int .i64 t698)).heap[gb4]? = some (.cells #[.int .i64 t697, .int .i64 t698] 23 (0, 0))) := ⟨bt BK4⟩
 have n3_ : Aside0 (IsS81 w ((w10.setCell ⟨gb4, 0, none⟩ (.int .i64 t697)).setCell ⟨gb4, 1, none⟩ (.int .i64 t698)) gb3 l0 t699 t700) := ⟨(IsS81.w HI696)⟩
 have n4_ : Aside0 (Below w.heap.size w ((w10.setCell ⟨gb4, 0, none⟩ (.int .i64 t697)).setCell ⟨gb4, 1, none⟩ (.int .i64 t698))) := ⟨(IsS81.bw HB HI696)⟩
 (try clear BK1)
 (try clear BK2)
 (try clear BK4)
 (try clear HI696)
 (try clear HB)
 generalize ((w10.setCell ⟨gb4, 0, none⟩ (.int .i64 t697)).setCell ⟨gb4, 1, none⟩ (.int .i64 t698)) = w15 at n0_ n1_ n2_ n3_ n4_ ⊢
 have BK1 := n0_
 have BK2 := n1_
 have BK4 := n2_
 have HI696 := n3_
 have HB := n4_
 clear n0_ n1_ n2_ n3_ n4_
 refine md3 BK1 BK2 BK4 ?_
 clear BK1 BK2 BK4
 intro BK1 BK2 BK4
 replace HI696 := Aside0.mk (IsS81.drew HI696.out)
 replace HB := Aside0.mk (below_drew1 HB.out)
 refine startK 10 (S := fun w' => w'.cell? ⟨gb4, 0, none⟩ = some (.int .i64 t697) ∧ w'.cell? ⟨gb4, 1, none⟩ = some (.int .i64 t698)) (ds := []) spec_DrawDoesFit.tab3 spec_DrawDoesFit.bits3 (hS := ⟨bc BK4 0, bc BK4 1⟩) (h := fun hHeld HT_ HW_ => ?_)
 generalize w15.drew = w16 at BK1 BK2 BK4 HI696 HB hHeld ⊢
 refine pureK HT_ 1 (some 15) ?_
 refine takeK HT_ HW_ hHeld 0 (some 14) ?_
 refine join_ (σ := Value × Nat) 2 #[true, true, true, true, true, true, true, true, false, false] (fun s_ => [(16, .int .i64 t702), (17, .tuple #[.agg #[s_.1], .bool t708]), (6, .pointer (some ⟨s_.2, 0, none⟩)), (13, .tuple #[.agg #[s_.1], .bool t708]), (18, .agg #[s_.1]), (19, .bool t708)]) (fun s_ w' => (w'.cell? ⟨gb4, 0, none⟩ = some (.int .i64 t697) ∧ w'.cell? ⟨gb4, 1, none⟩ = some (.int .i64 t698)) ∧ (Kd.R k28 28 w' w.heap.size (fun k_ => k_ ≠ gb1) s_.1 t705) ∧ (w'.heap[gb1]? = some (.cells #[.int .i64 0, .int .i64 0, .int .i64 0] 28 (0, 0))) ∧ (w'.heap[gb2]? = some (.cells #[.int .i64 0, .int .i64 0] 23 (0, 0))) ∧ (w'.heap[gb4]? = some (.cells #[.int .i64 t697, .int .i64 t698] 23 (0, 0))) ∧ (w'.heap[s_.2]? = some (.cells #[.slice none 0 0] 26 (0, 0))) ∧ (w.heap.size ≤ s_.2) ∧ (w.heap.size ≤ s_.2) ∧ (gb3 ≠ s_.2) ∧ (s_.2 ≠ gb3) ∧ (gb1 ≠ s_.2) ∧ (s_.2 ≠ gb1) ∧ (gb2 ≠ s_.2) ∧ (s_.2 ≠ gb2) ∧ (gb4 ≠ s_.2) ∧ (s_.2 ≠ gb4) ∧ (IsS81 w w' gb3 l0 t703 t704) ∧ (Below w.heap.size w w')) ?_ ?_
 rotate_left
 ·
  intro hCont
  refine two_ (i := 2) (j := 7) (Ni := some 16) (Nj := some 6) #[true, true, true, false, false, false, false, false, false, false] #[true, true, false, false, false, false, false, true, false, false] rfl rfl rfl rfl (two_of HT_.out (by kernel_rfl)) (by decide) (by decide) (fun K hK => ?_) (fun K hK => ?_)
  rotate_left
  ·
   skip
   refine box_step ?hg (N := 6) ?hd (cs := #[.slice none 0 0]) (t := 26) ?hr ?_; (case hd => rfl); (case hg => rfl); (case hr => first | (go_simp; done) | (go_simp; rfl))
   intro gb5 hg w17 hbox hb
   have BK5 := Aside0.mk (hbox)
   have GW5 := Aside0.mk ((by rw [hg]; exact (below_size (IsS81.bw HB HI696)) : w.heap.size ≤ gb5))
   have GE5 := Aside0.mk ((by rw [hg]; exact (below_size (IsS81.bw HB HI696)) : w.heap.size ≤ gb5))
   replace HB := IsS81.kbw HB HI696 hb
   obtain ⟨NB1_5, NB5_1, NB2_5, NB5_2, NB4_5, NB5_4⟩ := nv3 hg BK1 BK2 BK4
   refine mv3 hb BK1 BK2 BK4 ?_
   clear BK1 BK2 BK4
   intro BK1 BK2 BK4
   have NB3_5 := IsS81.nl HI696 hg
   have NB5_3 := ns (IsS81.nl HI696 hg)
   replace HI696 := IsS81.kb HI696 hb
   clear hb hbox hg
   refine hK.out _ _ ⟨bc BK4 0, bc BK4 1⟩ (fun hHeld => ?_)
   clear hK K
   refine normK (N := some 6) (h := ?_)
   refine oneK HT_ 2 (some 16) (fun K hK => ?_)
   refine goes_ Try.func58 (by kernel_rfl) rfl #[.pointer (some ⟨gb3, 0, none⟩), .int .i64 10000] (by rfl) rfl rfl argR ?_
   with_reducible refine (spec_l1Cur_pick.calls gb3 l0 t699 t700 10000 t702 t703 t704 w _ ?side1 ?side2 A3.out).mono ?_
   (case side1 => exact IsS81.w HI696)
   (case side2 => exact IsS81.bw HB HI696)
   rintro e w18 ⟨rfl, hi, hb, hk⟩
   refine ⟨_, rfl, ?_⟩
   replace BK1 := kbk BK1 NB1_3 hk
   replace BK2 := kbk BK2 NB2_3 hk
   replace BK4 := kbk BK4 NB4_3 hk
   replace BK5 := kbk BK5 NB5_3 hk
   replace HB := Aside0.mk (hb)
   replace HI696 := Aside0.mk (hi)
   (try clear hb)
   (try clear hb2)
   (try clear hk)
   (try clear hi)
   refine hK.out _ _ ⟨bc BK4 0, bc BK4 1⟩ (fun hHeld => ?_)
   clear hK K
   refine normK (N := some 16) (h := ?_)
   refine oneK HT_ 3 (some 17) (fun K hK => ?_)
   refine goes_ Try.func6 (by kernel_rfl) rfl #[.agg #[.int .i64 t697, .int .i64 t698], .int .i64 1, .int .i64 t702] (by rfl) rfl rfl argR ?_
   with_reducible refine (spec_MakePuzzle.calls k t697 t698 1 t702 t705 t708 _ A4.out).mono ?_
   rintro e w19 ⟨v706, rfl, ho0, hb⟩
   refine ⟨_, rfl, ?_⟩
   have HO707 := Aside0.mk (Kd.R_lower (Kd.R_newB ho0 (bk BK1)) (below_size (IsS81.bw HB HI696)))
   refine mv4 hb BK1 BK2 BK4 BK5 ?_
   clear BK1 BK2 BK4 BK5
   intro BK1 BK2 BK4 BK5
   replace HB := IsS81.kbw HB HI696 hb
   replace HI696 := IsS81.kb HI696 hb
   (try clear hb)
   (try clear hb2)
   (try clear hk)
   (try clear hi)
   (try clear ho0)
   refine hK.out _ _ ⟨bc BK4 0, bc BK4 1⟩ (fun hHeld => ?_)
   clear hK K
   refine normK (N := some 17) (h := ?_)
   refine pureK HT_ 4 (some 13) ?_
   refine pureK HT_ 5 (some 18) ?_
   refine pureK HT_ 6 (some 19) ?_
   exact norm_ (by simp only [putAll, Act.put, List.setIfInBounds_toArray, List.set_cons_zero, List.set_cons_succ]) (hCont (v706, gb5) _ ⟨hHeld, (by (with_reducible repeat (first | apply Kd.R_alloc | apply Kd.R_drewN | apply Kd.R_drew)); exact Kd.R_mono HO707.out (fun _ hk => hk.2)), (bk BK1), (bk BK2), (bk BK4), (bk BK5), GW5.out, GE5.out, NB3_5.out, NB5_3.out, NB1_5.out, NB5_1.out, NB2_5.out, NB5_2.out, NB4_5.out, NB5_4.out, (IsS81.w HI696), (IsS81.bw HB HI696)⟩)
  skip
  refine goes_ Try.func58 (by kernel_rfl) rfl #[.pointer (some ⟨gb3, 0, none⟩), .int .i64 10000] (by rfl) rfl rfl argR ?_
  with_reducible refine (spec_l1Cur_pick.calls gb3 l0 t699 t700 10000 t702 t703 t704 w _ ?side1 ?side2 A3.out).mono ?_
  (case side1 => exact IsS81.w HI696)
  (case side2 => exact IsS81.bw HB HI696)
  rintro e w17 ⟨rfl, hi, hb, hk⟩
  refine ⟨_, rfl, ?_⟩
  replace BK1 := kbk BK1 NB1_3 hk
  replace BK2 := kbk BK2 NB2_3 hk
  replace BK4 := kbk BK4 NB4_3 hk
  replace HB := Aside0.mk (hb)
  replace HI696 := Aside0.mk (hi)
  (try clear hb)
  (try clear hb2)
  (try clear hk)
  (try clear hi)
  refine hK.out _ _ ⟨bc BK4 0, bc BK4 1⟩ (fun hHeld => ?_)
  clear hK K
  refine normK (N := some 16) (h := ?_)
  refine two_ (i := 3) (j := 7) (Ni := some 17) (Nj := some 6) #[true, true, true, true, false, false, false, false, false, false] #[true, true, true, false, false, false, false, true, false, false] rfl rfl rfl rfl (two_of HT_.out (by kernel_rfl)) (by decide) (by decide) (fun K hK => ?_) (fun K hK => ?_)
  ·
   skip
   refine goes_ Try.func6 (by kernel_rfl) rfl #[.agg #[.int .i64 t697, .int .i64 t698], .int .i64 1, .int .i64 t702] (by rfl) rfl rfl argR ?_
   with_reducible refine (spec_MakePuzzle.calls k t697 t698 1 t702 t705 t708 _ A4.out).mono ?_
   rintro e w18 ⟨v706, rfl, ho0, hb⟩
   refine ⟨_, rfl, ?_⟩
   have HO707 := Aside0.mk (Kd.R_lower (Kd.R_newB ho0 (bk BK1)) (below_size (IsS81.bw HB HI696)))
   refine mv3 hb BK1 BK2 BK4 ?_
   clear BK1 BK2 BK4
   intro BK1 BK2 BK4
   replace HB := IsS81.kbw HB HI696 hb
   replace HI696 := IsS81.kb HI696 hb
   (try clear hb)
   (try clear hb2)
   (try clear hk)
   (try clear hi)
   (try clear ho0)
   refine hK.out _ _ ⟨bc BK4 0, bc BK4 1⟩ (fun hHeld => ?_)
   clear hK K
   refine normK (N := some 17) (h := ?_)
   refine pureK HT_ 4 (some 13) ?_
   refine pureK HT_ 5 (some 18) ?_
   refine pureK HT_ 6 (some 19) ?_
   refine oneK HT_ 7 (some 6) (fun K hK => ?_)
   refine box_step ?hg (N := 6) ?hd (cs := #[.slice none 0 0]) (t := 26) ?hr ?_; (case hd => rfl); (case hg => rfl); (case hr => first | (go_simp; done) | (go_simp; rfl))
   intro gb5 hg w19 hbox hb
   replace HO707 := ko HO707 hb
   have BK5 := Aside0.mk (hbox)
   have GW5 := Aside0.mk ((by rw [hg]; exact (below_size (IsS81.bw HB HI696)) : w.heap.size ≤ gb5))
   have GE5 := Aside0.mk ((by rw [hg]; exact (below_size (IsS81.bw HB HI696)) : w.heap.size ≤ gb5))
   replace HB := IsS81.kbw HB HI696 hb
   obtain ⟨NB1_5, NB5_1, NB2_5, NB5_2, NB4_5, NB5_4⟩ := nv3 hg BK1 BK2 BK4
   refine mv3 hb BK1 BK2 BK4 ?_
   clear BK1 BK2 BK4
   intro BK1 BK2 BK4
   have NB3_5 := IsS81.nl HI696 hg
   have NB5_3 := ns (IsS81.nl HI696 hg)
   replace HI696 := IsS81.kb HI696 hb
   clear hb hbox hg
   refine hK.out _ _ ⟨bc BK4 0, bc BK4 1⟩ (fun hHeld => ?_)
   clear hK K
   refine normK (N := some 6) (h := ?_)
   exact norm_ (by simp only [putAll, Act.put, List.setIfInBounds_toArray, List.set_cons_zero, List.set_cons_succ]) (hCont (v706, gb5) _ ⟨hHeld, (by (with_reducible repeat (first | apply Kd.R_alloc | apply Kd.R_drewN | apply Kd.R_drew)); exact Kd.R_mono HO707.out (fun _ hk => hk.2)), (bk BK1), (bk BK2), (bk BK4), (bk BK5), GW5.out, GE5.out, NB3_5.out, NB5_3.out, NB1_5.out, NB5_1.out, NB2_5.out, NB5_2.out, NB4_5.out, NB5_4.out, (IsS81.w HI696), (IsS81.bw HB HI696)⟩)
  skip
  refine box_step ?hg (N := 6) ?hd (cs := #[.slice none 0 0]) (t := 26) ?hr ?_; (case hd => rfl); (case hg => rfl); (case hr => first | (go_simp; done) | (go_simp; rfl))
  intro gb5 hg w18 hbox hb
  have BK5 := Aside0.mk (hbox)
  have GW5 := Aside0.mk ((by rw [hg]; exact (below_size (IsS81.bw HB HI696)) : w.heap.size ≤ gb5))
  have GE5 := Aside0.mk ((by rw [hg]; exact (below_size (IsS81.bw HB HI696)) : w.heap.size ≤ gb5))
  replace HB := IsS81.kbw HB HI696 hb
  obtain ⟨NB1_5, NB5_1, NB2_5, NB5_2, NB4_5, NB5_4⟩ := nv3 hg BK1 BK2 BK4
  refine mv3 hb BK1 BK2 BK4 ?_
  clear BK1 BK2 BK4
  intro BK1 BK2 BK4
  have NB3_5 := IsS81.nl HI696 hg
  have NB5_3 := ns (IsS81.nl HI696 hg)
  replace HI696 := IsS81.kb HI696 hb
  clear hb hbox hg
  refine hK.out _ _ ⟨bc BK4 0, bc BK4 1⟩ (fun hHeld => ?_)
  clear hK K
  refine normK (N := some 6) (h := ?_)
  refine oneK HT_ 3 (some 17) (fun K hK => ?_)
  refine goes_ Try.func6 (by kernel_rfl) rfl #[.agg #[.int .i64 t697, .int .i64 t698], .int .i64 1, .int .i64 t702] (by rfl) rfl rfl argR ?_
  with_reducible refine (spec_MakePuzzle.calls k t697 t698 1 t702 t705 t708 _ A4.out).mono ?_
  rintro e w19 ⟨v706, rfl, ho0, hb⟩
  refine ⟨_, rfl, ?_⟩
  have HO707 := Aside0.mk (Kd.R_lower (Kd.R_newB ho0 (bk BK1)) (below_size (IsS81.bw HB HI696)))
  refine mv4 hb BK1 BK2 BK4 BK5 ?_
  clear BK1 BK2 BK4 BK5
  intro BK1 BK2 BK4 BK5
  replace HB := IsS81.kbw HB HI696 hb
  replace HI696 := IsS81.kb HI696 hb
  (try clear hb)
  (try clear hb2)
  (try clear hk)
  (try clear hi)
  (try clear ho0)
  refine hK.out _ _ ⟨bc BK4 0, bc BK4 1⟩ (fun hHeld => ?_)
  clear hK K
  refine normK (N := some 17) (h := ?_)
  refine pureK HT_ 4 (some 13) ?_
  refine pureK HT_ 5 (some 18) ?_
  refine pureK HT_ 6 (some 19) ?_
  exact norm_ (by simp only [putAll, Act.put, List.setIfInBounds_toArray, List.set_cons_zero, List.set_cons_succ]) (hCont (v706, gb5) _ ⟨hHeld, (by (with_reducible repeat (first | apply Kd.R_alloc | apply Kd.R_drewN | apply Kd.R_drew)); exact Kd.R_mono HO707.out (fun _ hk => hk.2)), (bk BK1), (bk BK2), (bk BK4), (bk BK5), GW5.out, GE5.out, NB3_5.out, NB5_3.out, NB1_5.out, NB5_1.out, NB2_5.out, NB5_2.out, NB4_5.out, NB5_4.out, (IsS81.w HI696), (IsS81.bw HB HI696)⟩)
 rintro ⟨v706, gb5⟩ w20 ⟨hS_, h0_, h1_, h2_, h3_, h4_, h5_, h6_, h7_, h8_, h9_, h10_, h11_, h12_, h13_, h14_, h15_, h16_⟩
 have n0_ : Aside0 (Kd.R k28 28 w20 w.heap.size (fun k_ => k_ ≠ gb1) v706 t705) := ⟨h0_⟩
 have n1_ : Aside0 (w20.heap[gb1]? = some (.cells #[.int .i64 0, .int .i64 0, .int .i64 0] 28 (0, 0))) := ⟨h1_⟩
 have n2_ : Aside0 (w20.heap[gb2]? = some (.cells #[.int .i64 0, .int .i64 0] 23 (0, 0))) := ⟨h2_⟩
 have n3_ : Aside0 (w20.heap[gb4]? = some (.cells #[.int .i64 t697, .int .i64 t698] 23 (0, 0))) := ⟨h3_⟩
 have n4_ : Aside0 (w20.heap[gb5]? = some (.cells #[.slice none 0 0] 26 (0, 0))) := ⟨h4_⟩
 have n5_ : Aside0 (w.heap.size ≤ gb5) := ⟨h5_⟩
 have n6_ : Aside0 (w.heap.size ≤ gb5) := ⟨h6_⟩
 have n7_ : Aside0 (gb3 ≠ gb5) := ⟨h7_⟩
 have n8_ : Aside0 (gb5 ≠ gb3) := ⟨h8_⟩
 have n9_ : Aside0 (gb1 ≠ gb5) := ⟨h9_⟩
 have n10_ : Aside0 (gb5 ≠ gb1) := ⟨h10_⟩
 have n11_ : Aside0 (gb2 ≠ gb5) := ⟨h11_⟩
 have n12_ : Aside0 (gb5 ≠ gb2) := ⟨h12_⟩
 have n13_ : Aside0 (gb4 ≠ gb5) := ⟨h13_⟩
 have n14_ : Aside0 (gb5 ≠ gb4) := ⟨h14_⟩
 have n15_ : Aside0 (IsS81 w w20 gb3 l0 t703 t704) := ⟨h15_⟩
 have n16_ : Aside0 (Below w.heap.size w w20) := ⟨h16_⟩
 clear BK1
 clear BK2
 clear BK4
 clear HI696
 clear HB
 clear h0_ h1_ h2_ h3_ h4_ h5_ h6_ h7_ h8_ h9_ h10_ h11_ h12_ h13_ h14_ h15_ h16_
 have HO707 := n0_
 have BK1 := n1_
 have BK2 := n2_
 have BK4 := n3_
 have BK5 := n4_
 have GW5 := n5_
 have GE5 := n6_
 have NB3_5 := n7_
 have NB5_3 := n8_
 have NB1_5 := n9_
 have NB5_1 := n10_
 have NB2_5 := n11_
 have NB5_2 := n12_
 have NB4_5 := n13_
 have NB5_4 := n14_
 have HI696 := n15_
 have HB := n16_
 clear n0_ n1_ n2_ n3_ n4_ n5_ n6_ n7_ n8_ n9_ n10_ n11_ n12_ n13_ n14_ n15_ n16_
 have hHeld : w20.cell? ⟨gb4, 0, none⟩ = some (.int .i64 t697) ∧ w20.cell? ⟨gb4, 1, none⟩ = some (.int .i64 t698) := hS_
 obtain ⟨Ao21, co21, eo21⟩ := Kd.R_slice HO707.out
 (first | subst eo21 | (injection eo21 with f1_ f2_ f3_; have f4_ := f1_.symm; have f5_ := f3_.symm; clear f1_ f2_ f3_; subst f4_; subst f5_))
 refine norm_ (a' := ?_) ?_ ?_
 rotate_left
 ·
  simp only [putAll, Act.put, List.setIfInBounds_toArray, List.set_cons_zero, List.set_cons_succ]
  rfl
 refine oneK HT_ 8 none (fun K hK => ?_)
 have hs22 : w20.cell? ⟨gb5, 0, none⟩ = some (.slice none 0 0) := bc BK5 0
 have hfs22 := blk_frozen BK5.out 0
 have hns22_0 := NB1_5.out
 have hns22_1 := NB2_5.out
 have hns22_2 := NB4_5.out
 have hms22_0 := NB5_1.out
 have hms22_1 := NB5_2.out
 have hms22_2 := NB5_4.out
 refine skip_ (w1 := ?_) (by rfl) rfl ?_ ?_
 rotate_left
 ·
  go_simp
  rfl
 refine hK.out _ _ ⟨((cell_far (p := ⟨gb5, _, none⟩) NB4_5.out _).trans (hHeld.1)), ((cell_far (p := ⟨gb5, _, none⟩) NB4_5.out _).trans (hHeld.2))⟩ (fun hHeld => ?_)
 clear hK K
 refine pureK HT_ 9 (some 7) ?_
 refine done_ (done_of HT_.out (by kernel_rfl)) ?_
 go_upto_region 4 with (fail)
 go_cut [24] (fun v24 wc => ∃ (kq : Nat) (x24_4 : Bool) (x697001_4 : Int) (x697002_4 : Int), v24 = .bool x24_4 ∧ Aside0 (spec_DrawDoesFit.j0 kq x24_4 l0 x697001_4 x697002_4 t697 t698 t705 = some (r1, r2, r3, r4, r5)) ∧ Aside0 (kq ≤ k) ∧ Aside0 (Kd.R k28 28 wc w.heap.size (fun k_ => k_ ≠ gb1) (.slice Ao21 t705.length co21) t705) ∧ Aside0 (wc.heap[gb1]? = some (.cells #[.int .i64 0, .int .i64 0, .int .i64 0] 28 (0, 0))) ∧ Aside0 (wc.heap[gb2]? = some (.cells #[.int .i64 0, .int .i64 0] 23 (0, 0))) ∧ Aside0 (wc.heap[gb4]? = some (.cells #[.int .i64 t697, .int .i64 t698] 23 (0, 0))) ∧ Aside0 (wc.heap[gb5]? = some (.cells #[(.slice Ao21 t705.length co21)] 26 (0, 0))) ∧ Aside0 (IsS81 w wc gb3 l0 x697001_4 x697002_4) ∧ Aside0 (Below w.heap.size w wc))
 case first =>
  have H := HC5.out
  clear HC5
  replace H := iteB H; rcases H with ⟨rfl, H⟩ | ⟨rfl, H⟩
  ·
   replace H := bindS H; obtain ⟨⟨t710, t711, t712⟩, A24, H⟩ := H
   have H' := Aside0.mk H
   clear H
   go_wp2_with (first | (go_at_call 54; (with_reducible refine (spec_l1Cur_one.calls gb3 l0 t703 t704 3 t710 t711 t712 w _ ?side1 ?side2 A24.out).mono ?_); (case side1 => exact IsS81.w HI696); (case side2 => exact IsS81.bw HB HI696); rintro e w25 ⟨rfl, hi, hb, hk⟩; replace BK1 := Aside0.mk (KeepBut.blk hk (g' := gb1) (o := .cells #[.int .i64 0, .int .i64 0, .int .i64 0] 28 (0, 0)) (bf BK1 NB1_5) NB1_3.out (by simp)); replace BK2 := Aside0.mk (KeepBut.blk hk (g' := gb2) (o := .cells #[.int .i64 0, .int .i64 0] 23 (0, 0)) (bf BK2 NB2_5) NB2_3.out (by simp)); replace BK4 := Aside0.mk (KeepBut.blk hk (g' := gb4) (o := .cells #[.int .i64 t697, .int .i64 t698] 23 (0, 0)) (bf BK4 NB4_5) NB4_3.out (by simp)); replace HO707 := Aside0.mk (Kd.R_mono (Kd.R_keep (IsS81.apart (show IsS81 w _ gb3 l0 t703 t704 from (IsS81.w HI696)) (by (with_reducible repeat (first | apply Kd.R_alloc | apply Kd.R_drewN | apply Kd.R_drew)); exact (Kd.R_mono (Kd.R_far (p := ⟨gb5, 0, none⟩) (Kd.R_types HO707.out BK5.out (by decide)) (fun _ hk => hk.2) (.slice Ao21 t705.length co21)) (fun _ h_ => h_.1))) (by decide)) hk (fun _ h => h.2)) (fun _ h => h.1)); replace BK5 := Aside0.mk (KeepBut.blk hk (g' := gb5) (o := .cells #[.slice Ao21 t705.length co21] 26 (0, 0)) (bt BK5) NB5_3.out (by simp)); replace HB := Aside0.mk (hb); replace HI696 := Aside0.mk (hi); (try clear hb); (try clear hk); (try clear hi)))
   go_meet
   case rel => exact ⟨_, (t710), (t711), (t712), (by first | rfl | (simp; done) | (simp [*]; done)), H', ⟨by first | omega | exact Nat.le_refl _⟩, ⟨ro HO707⟩, ⟨bk BK1⟩, ⟨bk BK2⟩, ⟨bk BK4⟩, ⟨bk BK5⟩, ⟨(IsS81.w HI696)⟩, ⟨(IsS81.bw HB HI696)⟩⟩
  have H' := Aside0.mk H
  clear H
  go_wp2
  go_meet
  case rel => exact ⟨_, (false), (t703), (t704), (by first | rfl | (simp; done) | (simp [*]; done)), H', ⟨by first | omega | exact Nat.le_refl _⟩, ⟨by (with_reducible repeat (first | apply Kd.R_alloc | apply Kd.R_drewN | apply Kd.R_drew)); exact Kd.R_mono (Kd.R_far (p := ⟨gb5, 0, none⟩) (Kd.R_types HO707.out BK5.out (by decide)) (fun _ hk => hk.2) (.slice Ao21 t705.length co21)) (fun _ hk => hk.1)⟩, ⟨bf BK1 NB1_5⟩, ⟨bf BK2 NB2_5⟩, ⟨bf BK4 NB4_5⟩, ⟨bt BK5⟩, ⟨(IsS81.w HI696)⟩, ⟨(IsS81.bw HB HI696)⟩⟩
 case rest =>
  clear HC5
  try clear hcz14_0
  try clear hcz14_1
  try clear hfz14_0
  try clear hfz14_1
  obtain ⟨kq, x24_4, x697001_4, x697002_4, rfl, HA, HJ4, HO_710000, BK1, BK2, BK4, BK5, HI696, HB⟩ := hcut
  cases kq with
  | zero => exact absurd HA.out (by simp [spec_DrawDoesFit.j0])
  | succ kj4 =>
   have H := HA.out
   clear HA
   simp only [spec_DrawDoesFit.j0] at H
   replace H := iteB H; rcases H with ⟨rfl, H⟩ | ⟨rfl, H⟩
   ·
    replace H := iteS H; obtain ⟨c27, H⟩ := H
    have c27b0 : decide (0 < (t705.length : Int)) = true := decide_eq_true c27
    have c27b1 : decide (0 < t705.length) = true := decide_eq_true (by omega)
    clear c27
    simp only [Option.some.injEq, Prod.mk.injEq] at H
    obtain ⟨rfl, rfl, rfl, rfl, rfl⟩ := H
    try go_wp2
    replace HO_710000 := od HO_710000
    refine md4 BK1 BK2 BK4 BK5 ?_
    clear BK1 BK2 BK4 BK5
    intro BK1 BK2 BK4 BK5
    replace HI696 := Aside0.mk (IsS81.drew HI696.out)
    replace HB := Aside0.mk (below_drew1 HB.out)
    have p713 : 0 ≤ (0 : Int) := (by omega)
    have q713 : 0 < (t705.length : Int) := of_decide_eq_true (by first | (with_reducible assumption) | assumption)
    obtain ⟨ad713, e713, hx713_0, hx713_1, hx713_2⟩ := at_T28 (Kd.R_reads' HO_710000.out).2.2 0 p713 q713
    cases e713
    have qi713 : (0 < t705.length) = True := eq_true (by omega)
    (try rw [show ((0 : Int)).toNat = 0 from rfl] at hx713_0)
    (try rw [show 0 * 3 = 0 from rfl] at hx713_0)
    (try rw [Addr.add_zero'] at hx713_0)
    (try rw [show ((0 : Int)).toNat = 0 from rfl] at hx713_1)
    (try rw [show 0 * 3 = 0 from rfl] at hx713_1)
    (try rw [Addr.add_zero'] at hx713_1)
    (try rw [show ((0 : Int)).toNat = 0 from rfl] at hx713_2)
    (try rw [show 0 * 3 = 0 from rfl] at hx713_2)
    (try rw [Addr.add_zero'] at hx713_2)
    replace p713 := eq_true p713
    replace q713 := eq_true q713
    refine start_ (n := 7) (S := fun w' => w'.cell? ⟨gb5, 0, none⟩ = some (.slice (some ad713) t705.length co21) ∧ w'.cell? ⟨gb4, 0, none⟩ = some (.int .i64 t697) ∧ w'.cell? ⟨gb4, 1, none⟩ = some (.int .i64 t698) ∧ w'.cell? ad713 = some (.int .i64 ((rd_T28 t705 0).f0)) ∧ w'.cell? ⟨ad713.block, ad713.off + 1, none⟩ = some (.int .i64 ((rd_T28 t705 0).f1)) ∧ w'.cell? ⟨ad713.block, ad713.off + 2, none⟩ = some (.int .i64 ((rd_T28 t705 0).f2))) (ds := []) #[false, false, false, false, false, false, false] (by kernel_rfl) rfl rfl ⟨bc BK5 0, bc BK4 0, bc BK4 1, hx713_0, hx713_1, hx713_2⟩ (fun hHeld => ?_)
    generalize wc.drew = w28 at HO_710000 BK1 BK2 BK4 BK5 HI696 HB hx713_0 hx713_1 hx713_2 hHeld ⊢
    refine pure_ (i := 0) (N := some 25) (v := ?_) (a' := ?_) #[true, false, false, false, false, false, false] rfl rfl (by kernel_rfl) (fun _ _ _ h => h) (Or.inl ⟨by rfl, ?_⟩) ?_ ?_
    rotate_left
    ·
     intro w'
     go_simp
     with_reducible rfl
    rotate_left
    ·
     simp only [Act.put, List.setIfInBounds_toArray, List.set_cons_zero, List.set_cons_succ, i64_w, i32_w]
     rfl
    refine take_ (i := 1) (N := some 26) (v := ?_) (a' := ?_) #[true, true, false, false, false, false, false] rfl rfl (by kernel_rfl) (fun _ _ _ h => h) (Or.inl ⟨by rfl, ?_⟩) hHeld ?_ ?_
    rotate_left
    ·
     rintro w' ⟨s0, s1, s2, s3, s4, s5⟩
     go_simp
     with_reducible rfl
    rotate_left
    ·
     simp only [Act.put, List.setIfInBounds_toArray, List.set_cons_zero, List.set_cons_succ, i64_w, i32_w]
     rfl
    refine pure_ (i := 2) (N := some 27) (v := ?_) (a' := ?_) #[true, true, true, false, false, false, false] rfl rfl (by kernel_rfl) (fun _ _ _ h => h) (Or.inl ⟨by rfl, ?_⟩) ?_ ?_
    rotate_left
    ·
     intro w'
     go_simp
     with_reducible rfl
    rotate_left
    ·
     simp only [Act.put, List.setIfInBounds_toArray, List.set_cons_zero, List.set_cons_succ, i64_w, i32_w]
     rfl
    refine take_ (i := 3) (N := some 28) (v := ?_) (a' := ?_) #[true, true, true, true, false, false, false] rfl rfl (by kernel_rfl) (fun _ _ _ h => h) (Or.inl ⟨by rfl, ?_⟩) hHeld ?_ ?_
    rotate_left
    ·
     rintro w' ⟨s0, s1, s2, s3, s4, s5⟩
     go_simp
     with_reducible rfl
    rotate_left
    ·
     simp only [Act.put, List.setIfInBounds_toArray, List.set_cons_zero, List.set_cons_succ, i64_w, i32_w]
     rfl
    refine take_ (i := 4) (N := some 29) (v := ?_) (a' := ?_) #[true, true, true, true, true, false, false] rfl rfl (by kernel_rfl) (fun _ _ _ h => h) (Or.inl ⟨by rfl, ?_⟩) hHeld ?_ ?_
    rotate_left
    ·
     rintro w' ⟨s0, s1, s2, s3, s4, s5⟩
     go_simp
     with_reducible rfl
    rotate_left
    ·
     simp only [Act.put, List.setIfInBounds_toArray, List.set_cons_zero, List.set_cons_succ, i64_w, i32_w]
     rfl
    refine one_ (i := 5) (N := none) #[true, true, true, true, true, true, false] rfl rfl (by kernel_rfl) (by decide) (fun K hK => ?_)
    have hs29 : w28.cell? ⟨gb1, 0, none⟩ = some (.int .i64 0) := bc BK1 0
    have hfs29 := blk_frozen BK1.out 0
    have hns29_1 := NB2_1.out
    have hns29_2 := NB4_1.out
    have hns29_3 := NB5_1.out
    have hms29_1 := NB1_2.out
    have hms29_2 := NB1_4.out
    have hms29_3 := NB1_5.out
    have hs30 : w28.cell? ⟨gb1, 1, none⟩ = some (.int .i64 0) := bc BK1 1
    have hfs30 := blk_frozen BK1.out 1
    have hns30_1 := NB2_1.out
    have hns30_2 := NB4_1.out
    have hns30_3 := NB5_1.out
    have hms30_1 := NB1_2.out
    have hms30_2 := NB1_4.out
    have hms30_3 := NB1_5.out
    have hs31 : w28.cell? ⟨gb1, 2, none⟩ = some (.int .i64 0) := bc BK1 2
    have hfs31 := blk_frozen BK1.out 2
    have hns31_1 := NB2_1.out
    have hns31_2 := NB4_1.out
    have hns31_3 := NB5_1.out
    have hms31_1 := NB1_2.out
    have hms31_2 := NB1_4.out
    have hms31_3 := NB1_5.out
    refine skip_ (w1 := ?_) (by rfl) rfl ?_ ?_
    rotate_left
    ·
     go_simp
     rfl
    refine hK.out _ _ ⟨((cell_far (p := ⟨gb1, _, none⟩) NB5_1.out _).trans (((cell_far (p := ⟨gb1, _, none⟩) NB5_1.out _).trans (((cell_far (p := ⟨gb1, _, none⟩) NB5_1.out _).trans (hHeld.1)))))), ((cell_far (p := ⟨gb1, _, none⟩) NB4_1.out _).trans (((cell_far (p := ⟨gb1, _, none⟩) NB4_1.out _).trans (((cell_far (p := ⟨gb1, _, none⟩) NB4_1.out _).trans (hHeld.2.1)))))), ((cell_far (p := ⟨gb1, _, none⟩) NB4_1.out _).trans (((cell_far (p := ⟨gb1, _, none⟩) NB4_1.out _).trans (((cell_far (p := ⟨gb1, _, none⟩) NB4_1.out _).trans (hHeld.2.2.1)))))), ((cell_far (p := ⟨gb1, _, none⟩) (by first | exact Kd.own_blk (Kd.R_away HO_710000.out (fun _ hk => hk)) | (rw [add_block]; exact Kd.own_blk (Kd.R_away HO_710000.out (fun _ hk => hk))) | (show (Addr.add _ _).block ≠ _; rw [add_block]; exact Kd.own_blk (Kd.R_away HO_710000.out (fun _ hk => hk))) | (dsimp only; exact Kd.own_blk (Kd.R_away HO_710000.out (fun _ hk => hk)))) _).trans (((cell_far (p := ⟨gb1, _, none⟩) (by first | exact Kd.own_blk (Kd.R_away HO_710000.out (fun _ hk => hk)) | (rw [add_block]; exact Kd.own_blk (Kd.R_away HO_710000.out (fun _ hk => hk))) | (show (Addr.add _ _).block ≠ _; rw [add_block]; exact Kd.own_blk (Kd.R_away HO_710000.out (fun _ hk => hk))) | (dsimp only; exact Kd.own_blk (Kd.R_away HO_710000.out (fun _ hk => hk)))) _).trans (((cell_far (p := ⟨gb1, _, none⟩) (by first | exact Kd.own_blk (Kd.R_away HO_710000.out (fun _ hk => hk)) | (rw [add_block]; exact Kd.own_blk (Kd.R_away HO_710000.out (fun _ hk => hk))) | (show (Addr.add _ _).block ≠ _; rw [add_block]; exact Kd.own_blk (Kd.R_away HO_710000.out (fun _ hk => hk))) | (dsimp only; exact Kd.own_blk (Kd.R_away HO_710000.out (fun _ hk => hk)))) _).trans (hHeld.2.2.2.1)))))), ((cell_far (p := ⟨gb1, _, none⟩) (by first | exact Kd.own_blk (Kd.R_away HO_710000.out (fun _ hk => hk)) | (rw [add_block]; exact Kd.own_blk (Kd.R_away HO_710000.out (fun _ hk => hk))) | (show (Addr.add _ _).block ≠ _; rw [add_block]; exact Kd.own_blk (Kd.R_away HO_710000.out (fun _ hk => hk))) | (dsimp only; exact Kd.own_blk (Kd.R_away HO_710000.out (fun _ hk => hk)))) _).trans (((cell_far (p := ⟨gb1, _, none⟩) (by first | exact Kd.own_blk (Kd.R_away HO_710000.out (fun _ hk => hk)) | (rw [add_block]; exact Kd.own_blk (Kd.R_away HO_710000.out (fun _ hk => hk))) | (show (Addr.add _ _).block ≠ _; rw [add_block]; exact Kd.own_blk (Kd.R_away HO_710000.out (fun _ hk => hk))) | (dsimp only; exact Kd.own_blk (Kd.R_away HO_710000.out (fun _ hk => hk)))) _).trans (((cell_far (p := ⟨gb1, _, none⟩) (by first | exact Kd.own_blk (Kd.R_away HO_710000.out (fun _ hk => hk)) | (rw [add_block]; exact Kd.own_blk (Kd.R_away HO_710000.out (fun _ hk => hk))) | (show (Addr.add _ _).block ≠ _; rw [add_block]; exact Kd.own_blk (Kd.R_away HO_710000.out (fun _ hk => hk))) | (dsimp only; exact Kd.own_blk (Kd.R_away HO_710000.out (fun _ hk => hk)))) _).trans (hHeld.2.2.2.2.1)))))), ((cell_far (p := ⟨gb1, _, none⟩) (by first | exact Kd.own_blk (Kd.R_away HO_710000.out (fun _ hk => hk)) | (rw [add_block]; exact Kd.own_blk (Kd.R_away HO_710000.out (fun _ hk => hk))) | (show (Addr.add _ _).block ≠ _; rw [add_block]; exact Kd.own_blk (Kd.R_away HO_710000.out (fun _ hk => hk))) | (dsimp only; exact Kd.own_blk (Kd.R_away HO_710000.out (fun _ hk => hk)))) _).trans (((cell_far (p := ⟨gb1, _, none⟩) (by first | exact Kd.own_blk (Kd.R_away HO_710000.out (fun _ hk => hk)) | (rw [add_block]; exact Kd.own_blk (Kd.R_away HO_710000.out (fun _ hk => hk))) | (show (Addr.add _ _).block ≠ _; rw [add_block]; exact Kd.own_blk (Kd.R_away HO_710000.out (fun _ hk => hk))) | (dsimp only; exact Kd.own_blk (Kd.R_away HO_710000.out (fun _ hk => hk)))) _).trans (((cell_far (p := ⟨gb1, _, none⟩) (by first | exact Kd.own_blk (Kd.R_away HO_710000.out (fun _ hk => hk)) | (rw [add_block]; exact Kd.own_blk (Kd.R_away HO_710000.out (fun _ hk => hk))) | (show (Addr.add _ _).block ≠ _; rw [add_block]; exact Kd.own_blk (Kd.R_away HO_710000.out (fun _ hk => hk))) | (dsimp only; exact Kd.own_blk (Kd.R_away HO_710000.out (fun _ hk => hk)))) _).trans (hHeld.2.2.2.2.2))))))⟩ (fun hHeld => ?_)
    clear hK K
    refine one_ (i := 6) (N := none) #[true, true, true, true, true, true, true] rfl rfl (by kernel_rfl) (by decide) (fun K hK => ?_)
    have hs32 : w28.cell? ⟨gb2, 0, none⟩ = some (.int .i64 0) := bc BK2 0
    have hfs32 := blk_frozen BK2.out 0
    have hns32_0 := NB1_2.out
    have hns32_2 := NB4_2.out
    have hns32_3 := NB5_2.out
    have hms32_0 := NB2_1.out
    have hms32_2 := NB2_4.out
    have hms32_3 := NB2_5.out
    have hs33 : w28.cell? ⟨gb2, 1, none⟩ = some (.int .i64 0) := bc BK2 1
    have hfs33 := blk_frozen BK2.out 1
    have hns33_0 := NB1_2.out
    have hns33_2 := NB4_2.out
    have hns33_3 := NB5_2.out
    have hms33_0 := NB2_1.out
    have hms33_2 := NB2_4.out
    have hms33_3 := NB2_5.out
    refine skip_ (w1 := ?_) (by rfl) rfl ?_ ?_
    rotate_left
    ·
     go_simp
     rfl
    refine hK.out _ _ ⟨((cell_far (p := ⟨gb2, _, none⟩) NB5_2.out _).trans (((cell_far (p := ⟨gb2, _, none⟩) NB5_2.out _).trans (hHeld.1)))), ((cell_far (p := ⟨gb2, _, none⟩) NB4_2.out _).trans (((cell_far (p := ⟨gb2, _, none⟩) NB4_2.out _).trans (hHeld.2.1)))), ((cell_far (p := ⟨gb2, _, none⟩) NB4_2.out _).trans (((cell_far (p := ⟨gb2, _, none⟩) NB4_2.out _).trans (hHeld.2.2.1)))), ((cell_far (p := ⟨gb2, _, none⟩) (by first | exact Kd.own_blk (Kd.R_ne HO_710000.out BK2.out (by decide)) | (rw [add_block]; exact Kd.own_blk (Kd.R_ne HO_710000.out BK2.out (by decide))) | (show (Addr.add _ _).block ≠ _; rw [add_block]; exact Kd.own_blk (Kd.R_ne HO_710000.out BK2.out (by decide))) | (dsimp only; exact Kd.own_blk (Kd.R_ne HO_710000.out BK2.out (by decide)))) _).trans (((cell_far (p := ⟨gb2, _, none⟩) (by first | exact Kd.own_blk (Kd.R_ne HO_710000.out BK2.out (by decide)) | (rw [add_block]; exact Kd.own_blk (Kd.R_ne HO_710000.out BK2.out (by decide))) | (show (Addr.add _ _).block ≠ _; rw [add_block]; exact Kd.own_blk (Kd.R_ne HO_710000.out BK2.out (by decide))) | (dsimp only; exact Kd.own_blk (Kd.R_ne HO_710000.out BK2.out (by decide)))) _).trans (hHeld.2.2.2.1)))), ((cell_far (p := ⟨gb2, _, none⟩) (by first | exact Kd.own_blk (Kd.R_ne HO_710000.out BK2.out (by decide)) | (rw [add_block]; exact Kd.own_blk (Kd.R_ne HO_710000.out BK2.out (by decide))) | (show (Addr.add _ _).block ≠ _; rw [add_block]; exact Kd.own_blk (Kd.R_ne HO_710000.out BK2.out (by decide))) | (dsimp only; exact Kd.own_blk (Kd.R_ne HO_710000.out BK2.out (by decide)))) _).trans (((cell_far (p := ⟨gb2, _, none⟩) (by first | exact Kd.own_blk (Kd.R_ne HO_710000.out BK2.out (by decide)) | (rw [add_block]; exact Kd.own_blk (Kd.R_ne HO_710000.out BK2.out (by decide))) | (show (Addr.add _ _).block ≠ _; rw [add_block]; exact Kd.own_blk (Kd.R_ne HO_710000.out BK2.out (by decide))) | (dsimp only; exact Kd.own_blk (Kd.R_ne HO_710000.out BK2.out (by decide)))) _).trans (hHeld.2.2.2.2.1)))), ((cell_far (p := ⟨gb2, _, none⟩) (by first | exact Kd.own_blk (Kd.R_ne HO_710000.out BK2.out (by decide)) | (rw [add_block]; exact Kd.own_blk (Kd.R_ne HO_710000.out BK2.out (by decide))) | (show (Addr.add _ _).block ≠ _; rw [add_block]; exact Kd.own_blk (Kd.R_ne HO_710000.out BK2.out (by decide))) | (dsimp only; exact Kd.own_blk (Kd.R_ne HO_710000.out BK2.out (by decide)))) _).trans (((cell_far (p := ⟨gb2, _, none⟩) (by first | exact Kd.own_blk (Kd.R_ne HO_710000.out BK2.out (by decide)) | (rw [add_block]; exact Kd.own_blk (Kd.R_ne HO_710000.out BK2.out (by decide))) | (show (Addr.add _ _).block ≠ _; rw [add_block]; exact Kd.own_blk (Kd.R_ne HO_710000.out BK2.out (by decide))) | (dsimp only; exact Kd.own_blk (Kd.R_ne HO_710000.out BK2.out (by decide)))) _).trans (hHeld.2.2.2.2.2))))⟩ (fun hHeld => ?_)
    clear hK K
    refine done_ (by kernel_rfl) ?_
    try go_wp2
    refine bodyPost_ret (results_cc rfl _ _ gb1 gb2 28 23 #[.int .i64 ((rd_T28 t705 0).f0), .int .i64 ((rd_T28 t705 0).f1), .int .i64 ((rd_T28 t705 0).f2)] #[.int .i64 t697, .int .i64 t698] (0, 0) (0, 0) _ _ rfl (bt BK1) Try.underlying28 rfl (by kernel_rfl) rfl (bt BK2) Try.underlying23 rfl (by kernel_rfl)) rfl ?_
    exact ⟨eqR, (IsS81.bw HB HI696)⟩
   replace H := bindS H; obtain ⟨⟨t714, t715, t716⟩, A34, H⟩ := H
   replace H := iteB H; rcases H with ⟨rfl, H⟩ | ⟨rfl, H⟩
   rotate_left
   ·
    replace H := bindS H; obtain ⟨⟨t726, t727, t728, t729, t730⟩, A53, H⟩ := H
    simp only [Option.some.injEq, Prod.mk.injEq] at H
    obtain ⟨rfl, rfl, rfl, rfl, rfl⟩ := H
    try go_wp2_with (first | ((with_reducible refine gate_callee (f := 54) rfl ?_); refine goK (some 31) Try.func54 #[.pointer (some ⟨gb3, 0, none⟩), .int .i64 10] ?_; (with_reducible refine (spec_l1Cur_one.calls gb3 l0 x697001_4 x697002_4 10 false t715 t716 w _ ?side1 ?side2 A34.out).mono ?_); (case side1 => exact IsS81.w HI696); (case side2 => exact IsS81.bw HB HI696); rintro e w54 ⟨rfl, hi, hb, hk⟩; refine ⟨_, rfl, ?_⟩; replace HO_710000 := Aside0.mk (Kd.R_mono (Kd.R_keep (IsS81.apart (show IsS81 w _ gb3 l0 x697001_4 x697002_4 from (IsS81.w HI696)) (ro HO_710000) (by decide)) hk (fun _ h => h.2)) (fun _ h => h.1)); replace BK1 := kbk BK1 NB1_3 hk; replace BK2 := kbk BK2 NB2_3 hk; replace BK4 := kbk BK4 NB4_3 hk; replace BK5 := kbk BK5 NB5_3 hk; replace HB := Aside0.mk (hb); replace HI696 := Aside0.mk (hi); (try clear hb); (try clear hk); (try clear hi)))
    replace HO_710000 := od HO_710000
    refine md4 BK1 BK2 BK4 BK5 ?_
    clear BK1 BK2 BK4 BK5
    intro BK1 BK2 BK4 BK5
    replace HI696 := Aside0.mk (IsS81.drew HI696.out)
    replace HB := Aside0.mk (below_drew1 HB.out)
    refine start_ (n := 5) (S := fun w' => w'.cell? ⟨gb4, 0, none⟩ = some (.int .i64 t697) ∧ w'.cell? ⟨gb4, 1, none⟩ = some (.int .i64 t698)) (ds := []) #[false, false, false, false, false] (by kernel_rfl) rfl rfl ⟨bc BK4 0, bc BK4 1⟩ (fun hHeld => ?_)
    generalize w54.drew = w55 at HO_710000 BK1 BK2 BK4 BK5 HI696 HB hHeld ⊢
    refine pure_ (i := 0) (N := some 34) (v := ?_) (a' := ?_) #[true, false, false, false, false] rfl rfl (by kernel_rfl) (fun _ _ _ h => h) (Or.inl ⟨by rfl, ?_⟩) ?_ ?_
    rotate_left
    ·
     intro w'
     go_simp
     with_reducible rfl
    rotate_left
    ·
     simp only [Act.put, List.setIfInBounds_toArray, List.set_cons_zero, List.set_cons_succ, i64_w, i32_w]
     rfl
    refine take_ (i := 2) (N := some 36) (v := ?_) (a' := ?_) #[true, false, true, false, false] rfl rfl (by kernel_rfl) (fun _ _ _ h => h) (Or.inl ⟨by rfl, ?_⟩) hHeld ?_ ?_
    rotate_left
    ·
     rintro w' ⟨s0, s1⟩
     go_simp
     with_reducible rfl
    rotate_left
    ·
     simp only [Act.put, List.setIfInBounds_toArray, List.set_cons_zero, List.set_cons_succ, i64_w, i32_w]
     rfl
    refine one_ (i := 1) (N := some 35) #[true, true, true, false, false] rfl rfl (by kernel_rfl) (by decide) (fun K hK => ?_)
    refine goes_ Try.func60 (by kernel_rfl) rfl #[.pointer (some ⟨gb3, 0, none⟩)] (by rfl) rfl rfl argR ?_
    with_reducible refine (spec_l1Cur_clue.calls kj4 gb3 l0 t715 t716 t726 t727 t728 t729 t730 w _ ?side1 ?side2 A53.out).mono ?_
    (case side1 => exact IsS81.w HI696)
    (case side2 => exact IsS81.bw HB HI696)
    rintro e w56 ⟨rfl, hi, hb, hk⟩
    refine ⟨_, rfl, ?_⟩
    replace HO_710000 := Aside0.mk (Kd.R_mono (Kd.R_keep (IsS81.apart (show IsS81 w _ gb3 l0 t715 t716 from (IsS81.w HI696)) (ro HO_710000) (by decide)) hk (fun _ h => h.2)) (fun _ h => h.1))
    replace BK1 := kbk BK1 NB1_3 hk
    replace BK2 := kbk BK2 NB2_3 hk
    replace BK4 := kbk BK4 NB4_3 hk
    replace BK5 := kbk BK5 NB5_3 hk
    replace HB := Aside0.mk (hb)
    replace HI696 := Aside0.mk (hi)
    (try clear hb)
    (try clear hb2)
    (try clear hk)
    (try clear hi)
    refine hK.out _ _ ⟨bc BK4 0, bc BK4 1⟩ (fun hHeld => ?_)
    clear hK K
    refine normK (N := some 35) (h := ?_)
    refine one_ (i := 3) (N := none) #[true, true, true, true, false] rfl rfl (by kernel_rfl) (by decide) (fun K hK => ?_)
    have hs57 : w56.cell? ⟨gb1, 0, none⟩ = some (.int .i64 0) := bc BK1 0
    have hfs57 := blk_frozen BK1.out 0
    have hns57_1 := NB2_1.out
    have hns57_2 := NB4_1.out
    have hns57_3 := NB5_1.out
    have hms57_1 := NB1_2.out
    have hms57_2 := NB1_4.out
    have hms57_3 := NB1_5.out
    have hs58 : w56.cell? ⟨gb1, 1, none⟩ = some (.int .i64 0) := bc BK1 1
    have hfs58 := blk_frozen BK1.out 1
    have hns58_1 := NB2_1.out
    have hns58_2 := NB4_1.out
    have hns58_3 := NB5_1.out
    have hms58_1 := NB1_2.out
    have hms58_2 := NB1_4.out
    have hms58_3 := NB1_5.out
    have hs59 : w56.cell? ⟨gb1, 2, none⟩ = some (.int .i64 0) := bc BK1 2
    have hfs59 := blk_frozen BK1.out 2
    have hns59_1 := NB2_1.out
    have hns59_2 := NB4_1.out
    have hns59_3 := NB5_1.out
    have hms59_1 := NB1_2.out
    have hms59_2 := NB1_4.out
    have hms59_3 := NB1_5.out
    refine skip_ (w1 := ?_) (by rfl) rfl ?_ ?_
    rotate_left
    ·
     go_simp
     rfl
    refine hK.out _ _ ⟨((cell_far (p := ⟨gb1, _, none⟩) NB4_1.out _).trans (((cell_far (p := ⟨gb1, _, none⟩) NB4_1.out _).trans (((cell_far (p := ⟨gb1, _, none⟩) NB4_1.out _).trans (hHeld.1)))))), ((cell_far (p := ⟨gb1, _, none⟩) NB4_1.out _).trans (((cell_far (p := ⟨gb1, _, none⟩) NB4_1.out _).trans (((cell_far (p := ⟨gb1, _, none⟩) NB4_1.out _).trans (hHeld.2))))))⟩ (fun hHeld => ?_)
    clear hK K
    refine one_ (i := 4) (N := none) #[true, true, true, true, true] rfl rfl (by kernel_rfl) (by decide) (fun K hK => ?_)
    have hs60 : w56.cell? ⟨gb2, 0, none⟩ = some (.int .i64 0) := bc BK2 0
    have hfs60 := blk_frozen BK2.out 0
    have hns60_0 := NB1_2.out
    have hns60_2 := NB4_2.out
    have hns60_3 := NB5_2.out
    have hms60_0 := NB2_1.out
    have hms60_2 := NB2_4.out
    have hms60_3 := NB2_5.out
    have hs61 : w56.cell? ⟨gb2, 1, none⟩ = some (.int .i64 0) := bc BK2 1
    have hfs61 := blk_frozen BK2.out 1
    have hns61_0 := NB1_2.out
    have hns61_2 := NB4_2.out
    have hns61_3 := NB5_2.out
    have hms61_0 := NB2_1.out
    have hms61_2 := NB2_4.out
    have hms61_3 := NB2_5.out
    refine skip_ (w1 := ?_) (by rfl) rfl ?_ ?_
    rotate_left
    ·
     go_simp
     rfl
    refine hK.out _ _ ⟨((cell_far (p := ⟨gb2, _, none⟩) NB4_2.out _).trans (((cell_far (p := ⟨gb2, _, none⟩) NB4_2.out _).trans (hHeld.1)))), ((cell_far (p := ⟨gb2, _, none⟩) NB4_2.out _).trans (((cell_far (p := ⟨gb2, _, none⟩) NB4_2.out _).trans (hHeld.2))))⟩ (fun hHeld => ?_)
    clear hK K
    refine done_ (by kernel_rfl) ?_
    try go_wp2
    refine bodyPost_ret (results_cc rfl _ _ gb1 gb2 28 23 #[.int .i64 t726, .int .i64 t727, .int .i64 t728] #[.int .i64 t697, .int .i64 t698] (0, 0) (0, 0) _ _ rfl (bt BK1) Try.underlying28 rfl (by kernel_rfl) rfl (bt BK2) Try.underlying23 rfl (by kernel_rfl)) rfl ?_
    exact ⟨eqR, (IsS81.bw HB HI696)⟩
   replace H := bindS H; obtain ⟨⟨t717, t718, t719, t720⟩, A36, H⟩ := H
   replace H := bindS H; obtain ⟨⟨t721, t722, t723, t724, t725⟩, A37, H⟩ := H
   simp only [Option.some.injEq, Prod.mk.injEq] at H
   obtain ⟨rfl, rfl, rfl, rfl, rfl⟩ := H
   try go_wp2_with (first | ((with_reducible refine gate_callee (f := 54) rfl ?_); refine goK (some 31) Try.func54 #[.pointer (some ⟨gb3, 0, none⟩), .int .i64 10] ?_; (with_reducible refine (spec_l1Cur_one.calls gb3 l0 x697001_4 x697002_4 10 true t715 t716 w _ ?side1 ?side2 A34.out).mono ?_); (case side1 => exact IsS81.w HI696); (case side2 => exact IsS81.bw HB HI696); rintro e w38 ⟨rfl, hi, hb, hk⟩; refine ⟨_, rfl, ?_⟩; replace HO_710000 := Aside0.mk (Kd.R_mono (Kd.R_keep (IsS81.apart (show IsS81 w _ gb3 l0 x697001_4 x697002_4 from (IsS81.w HI696)) (ro HO_710000) (by decide)) hk (fun _ h => h.2)) (fun _ h => h.1)); replace BK1 := kbk BK1 NB1_3 hk; replace BK2 := kbk BK2 NB2_3 hk; replace BK4 := kbk BK4 NB4_3 hk; replace BK5 := kbk BK5 NB5_3 hk; replace HB := Aside0.mk (hb); replace HI696 := Aside0.mk (hi); (try clear hb); (try clear hk); (try clear hi)) | ((with_reducible refine gate_callee (f := 55) rfl ?_); refine goK (some 33) Try.func55 #[.pointer (some ⟨gb3, 0, none⟩)] ?_; (with_reducible refine (spec_l1Cur_snail.calls gb3 l0 t715 t716 t717 t718 t719 t720 w _ ?side1 ?side2 A36.out).mono ?_); (case side1 => exact IsS81.w HI696); (case side2 => exact IsS81.bw HB HI696); rintro e w39 ⟨rfl, hi, hb, hk⟩; refine ⟨_, rfl, ?_⟩; replace HO_710000 := Aside0.mk (Kd.R_mono (Kd.R_keep (IsS81.apart (show IsS81 w _ gb3 l0 t715 t716 from (IsS81.w HI696)) (ro HO_710000) (by decide)) hk (fun _ h => h.2)) (fun _ h => h.1)); replace BK1 := kbk BK1 NB1_3 hk; replace BK2 := kbk BK2 NB2_3 hk; replace BK4 := kbk BK4 NB4_3 hk; replace BK5 := kbk BK5 NB5_3 hk; replace HB := Aside0.mk (hb); replace HI696 := Aside0.mk (hi); (try clear hb); (try clear hk); (try clear hi); have hnb40 := up4 NB4_1 NB4_2 NB4_5 NB4_3; obtain ⟨hcz44_0, hcz44_1, hfz44_0, hfz44_1⟩ := kc2 BK4))
   have n0_ : Aside0 (Kd.R k28 28 ((w39.setCell ⟨gb4, 0, none⟩ (.int .i64 t717)).setCell ⟨gb4, 1, none⟩ (.int .i64 t718)) w.heap.size (fun k_ => k_ ≠ gb1) (.slice Ao21 t705.length co21) t705) := ⟨by (with_reducible repeat (first | apply Kd.R_alloc | apply Kd.R_drewN | apply Kd.R_drew)); exact Kd.R_mono (Kd.R_far (p := ⟨gb4, 1, none⟩) (Kd.R_far (p := ⟨gb4, 0, none⟩) (Kd.R_types HO_710000.out BK4.out (by decide)) (fun _ hk => hk.2) (.int .i64 t717)) (fun _ hk => hk.2) (.int .i64 t718)) (fun _ hk => hk.1)⟩
   have n1_ : Aside0 (((w39.setCell ⟨gb4, 0, none⟩ (.int .i64 t717)).setCell ⟨gb4, 1, none⟩ (.int .i64 t718)).heap[gb1]? = some (.cells #[.int .i64 0, .int .i64 0, .int .i64 0] 28 (0, 0))) := ⟨bf2 BK1 NB1_4 NB1_4⟩
   have n2_ : Aside0 (((w39.setCell ⟨gb4, 0, none⟩ (.int .i64 t717)).setCell ⟨gb4, 1, none⟩ (.int .i64 t718)).heap[gb2]? = some (.cells #[.int .i64 0, .int .i64 0] 23 (0, 0))) := ⟨bf2 BK2 NB2_4 NB2_4⟩
   have n3_ : Aside0 (((w39.setCell ⟨gb4, 0, none⟩ (.int .i64 t717)).setCell ⟨gb4, 1, none⟩ (.int .i64 t718)).heap[gb4]? = some (.cells #[.int .i64 t717, .int .i64 t718] 23 (0, 0))) := ⟨bt BK4⟩
   have n4_ : Aside0 (((w39.setCell ⟨gb4, 0, none⟩ (.int .i64 t717)).setCell ⟨gb4, 1, none⟩ (.int .i64 t718)).heap[gb5]? = some (.cells #[.slice Ao21 t705.length co21] 26 (0, 0))) := ⟨bf2 BK5 NB5_4 NB5_4⟩
   have n5_ : Aside0 (IsS81 w ((w39.setCell ⟨gb4, 0, none⟩ (.int .i64 t717)).setCell ⟨gb4, 1, none⟩ (.int .i64 t718)) gb3 l0 t719 t720) := ⟨(IsS81.w HI696)⟩
   have n6_ : Aside0 (Below w.heap.size w ((w39.setCell ⟨gb4, 0, none⟩ (.int .i64 t717)).setCell ⟨gb4, 1, none⟩ (.int .i64 t718))) := ⟨(IsS81.bw HB HI696)⟩
   (try clear HO_710000)
   (try clear BK1)
   (try clear BK2)
   (try clear BK4)
   (try clear BK5)
   (try clear HI696)
   (try clear HB)
   generalize ((w39.setCell ⟨gb4, 0, none⟩ (.int .i64 t717)).setCell ⟨gb4, 1, none⟩ (.int .i64 t718)) = w45 at n0_ n1_ n2_ n3_ n4_ n5_ n6_ ⊢
   have HO_710000 := n0_
   have BK1 := n1_
   have BK2 := n2_
   have BK4 := n3_
   have BK5 := n4_
   have HI696 := n5_
   have HB := n6_
   clear n0_ n1_ n2_ n3_ n4_ n5_ n6_
   replace HO_710000 := od HO_710000
   refine md4 BK1 BK2 BK4 BK5 ?_
   clear BK1 BK2 BK4 BK5
   intro BK1 BK2 BK4 BK5
   replace HI696 := Aside0.mk (IsS81.drew HI696.out)
   replace HB := Aside0.mk (below_drew1 HB.out)
   refine start_ (n := 5) (S := fun w' => w'.cell? ⟨gb4, 0, none⟩ = some (.int .i64 t717) ∧ w'.cell? ⟨gb4, 1, none⟩ = some (.int .i64 t718)) (ds := []) #[false, false, false, false, false] (by kernel_rfl) rfl rfl ⟨bc BK4 0, bc BK4 1⟩ (fun hHeld => ?_)
   generalize w45.drew = w46 at HO_710000 BK1 BK2 BK4 BK5 HI696 HB hHeld ⊢
   refine pure_ (i := 0) (N := some 34) (v := ?_) (a' := ?_) #[true, false, false, false, false] rfl rfl (by kernel_rfl) (fun _ _ _ h => h) (Or.inl ⟨by rfl, ?_⟩) ?_ ?_
   rotate_left
   ·
    intro w'
    go_simp
    with_reducible rfl
   rotate_left
   ·
    simp only [Act.put, List.setIfInBounds_toArray, List.set_cons_zero, List.set_cons_succ, i64_w, i32_w]
    rfl
   refine take_ (i := 2) (N := some 36) (v := ?_) (a' := ?_) #[true, false, true, false, false] rfl rfl (by kernel_rfl) (fun _ _ _ h => h) (Or.inl ⟨by rfl, ?_⟩) hHeld ?_ ?_
   rotate_left
   ·
    rintro w' ⟨s0, s1⟩
    go_simp
    with_reducible rfl
   rotate_left
   ·
    simp only [Act.put, List.setIfInBounds_toArray, List.set_cons_zero, List.set_cons_succ, i64_w, i32_w]
    rfl
   refine one_ (i := 1) (N := some 35) #[true, true, true, false, false] rfl rfl (by kernel_rfl) (by decide) (fun K hK => ?_)
   refine goes_ Try.func60 (by kernel_rfl) rfl #[.pointer (some ⟨gb3, 0, none⟩)] (by rfl) rfl rfl argR ?_
   with_reducible refine (spec_l1Cur_clue.calls kj4 gb3 l0 t719 t720 t721 t722 t723 t724 t725 w _ ?side1 ?side2 A37.out).mono ?_
   (case side1 => exact IsS81.w HI696)
   (case side2 => exact IsS81.bw HB HI696)
   rintro e w47 ⟨rfl, hi, hb, hk⟩
   refine ⟨_, rfl, ?_⟩
   replace HO_710000 := Aside0.mk (Kd.R_mono (Kd.R_keep (IsS81.apart (show IsS81 w _ gb3 l0 t719 t720 from (IsS81.w HI696)) (ro HO_710000) (by decide)) hk (fun _ h => h.2)) (fun _ h => h.1))
   replace BK1 := kbk BK1 NB1_3 hk
   replace BK2 := kbk BK2 NB2_3 hk
   replace BK4 := kbk BK4 NB4_3 hk
   replace BK5 := kbk BK5 NB5_3 hk
   replace HB := Aside0.mk (hb)
   replace HI696 := Aside0.mk (hi)
   (try clear hb)
   (try clear hb2)
   (try clear hk)
   (try clear hi)
   refine hK.out _ _ ⟨bc BK4 0, bc BK4 1⟩ (fun hHeld => ?_)
   clear hK K
   refine normK (N := some 35) (h := ?_)
   refine one_ (i := 3) (N := none) #[true, true, true, true, false] rfl rfl (by kernel_rfl) (by decide) (fun K hK => ?_)
   have hs48 : w47.cell? ⟨gb1, 0, none⟩ = some (.int .i64 0) := bc BK1 0
   have hfs48 := blk_frozen BK1.out 0
   have hns48_1 := NB2_1.out
   have hns48_2 := NB4_1.out
   have hns48_3 := NB5_1.out
   have hms48_1 := NB1_2.out
   have hms48_2 := NB1_4.out
   have hms48_3 := NB1_5.out
   have hs49 : w47.cell? ⟨gb1, 1, none⟩ = some (.int .i64 0) := bc BK1 1
   have hfs49 := blk_frozen BK1.out 1
   have hns49_1 := NB2_1.out
   have hns49_2 := NB4_1.out
   have hns49_3 := NB5_1.out
   have hms49_1 := NB1_2.out
   have hms49_2 := NB1_4.out
   have hms49_3 := NB1_5.out
   have hs50 : w47.cell? ⟨gb1, 2, none⟩ = some (.int .i64 0) := bc BK1 2
   have hfs50 := blk_frozen BK1.out 2
   have hns50_1 := NB2_1.out
   have hns50_2 := NB4_1.out
   have hns50_3 := NB5_1.out
   have hms50_1 := NB1_2.out
   have hms50_2 := NB1_4.out
   have hms50_3 := NB1_5.out
   refine skip_ (w1 := ?_) (by rfl) rfl ?_ ?_
   rotate_left
   ·
    go_simp
    rfl
   refine hK.out _ _ ⟨((cell_far (p := ⟨gb1, _, none⟩) NB4_1.out _).trans (((cell_far (p := ⟨gb1, _, none⟩) NB4_1.out _).trans (((cell_far (p := ⟨gb1, _, none⟩) NB4_1.out _).trans (hHeld.1)))))), ((cell_far (p := ⟨gb1, _, none⟩) NB4_1.out _).trans (((cell_far (p := ⟨gb1, _, none⟩) NB4_1.out _).trans (((cell_far (p := ⟨gb1, _, none⟩) NB4_1.out _).trans (hHeld.2))))))⟩ (fun hHeld => ?_)
   clear hK K
   refine one_ (i := 4) (N := none) #[true, true, true, true, true] rfl rfl (by kernel_rfl) (by decide) (fun K hK => ?_)
   have hs51 : w47.cell? ⟨gb2, 0, none⟩ = some (.int .i64 0) := bc BK2 0
   have hfs51 := blk_frozen BK2.out 0
   have hns51_0 := NB1_2.out
   have hns51_2 := NB4_2.out
   have hns51_3 := NB5_2.out
   have hms51_0 := NB2_1.out
   have hms51_2 := NB2_4.out
   have hms51_3 := NB2_5.out
   have hs52 : w47.cell? ⟨gb2, 1, none⟩ = some (.int .i64 0) := bc BK2 1
   have hfs52 := blk_frozen BK2.out 1
   have hns52_0 := NB1_2.out
   have hns52_2 := NB4_2.out
   have hns52_3 := NB5_2.out
   have hms52_0 := NB2_1.out
   have hms52_2 := NB2_4.out
   have hms52_3 := NB2_5.out
   refine skip_ (w1 := ?_) (by rfl) rfl ?_ ?_
   rotate_left
   ·
    go_simp
    rfl
   refine hK.out _ _ ⟨((cell_far (p := ⟨gb2, _, none⟩) NB4_2.out _).trans (((cell_far (p := ⟨gb2, _, none⟩) NB4_2.out _).trans (hHeld.1)))), ((cell_far (p := ⟨gb2, _, none⟩) NB4_2.out _).trans (((cell_far (p := ⟨gb2, _, none⟩) NB4_2.out _).trans (hHeld.2))))⟩ (fun hHeld => ?_)
   clear hK K
   refine done_ (by kernel_rfl) ?_
   try go_wp2
   refine bodyPost_ret (results_cc rfl _ _ gb1 gb2 28 23 #[.int .i64 t721, .int .i64 t722, .int .i64 t723] #[.int .i64 t717, .int .i64 t718] (0, 0) (0, 0) _ _ rfl (bt BK1) Try.underlying28 rfl (by kernel_rfl) rfl (bt BK2) Try.underlying23 rfl (by kernel_rfl)) rfl ?_
   exact ⟨eqR, (IsS81.bw HB HI696)⟩

/-! ### spec_DrawIsClue: function 31 -/
def spec_DrawIsClue.f (k : Nat) (l0 : List Int) : Option (Int × Int × Int) := (spec_l1Cur_one.f l0 0 0 3).bind fun bt733 => (if bt733.1 = true then ((spec_l1Cur_pick.f l0 bt733.2.1 bt733.2.2 6).bind fun bt736 => ((spec_l1Cur_pick.f l0 bt736.2.1 bt736.2.2 9).bind fun bt739 => ((spec_l1Cur_among.f l0 bt739.2.1 bt739.2.2 (([(-1), 0, 0, 1, 2, 9, 10, 100, 101, 4611686018427387904] : List Int))).bind fun bt745 => ((spec_l1Cur_among.f l0 bt745.2.1 bt745.2.2 (([(-13), (-12), (-1), 0, 1, 2, 12, 13, 24, 25, 100, 101] : List Int))).bind fun bt751 => (some (wrap64 (bt736.1 - (wrap64 (Int.tdiv bt739.1 8))), bt745.1, bt751.1)))))) else ((spec_l1Cur_clue.f k l0 bt733.2.1 bt733.2.2).bind fun bt754 => (some (bt754.1, bt754.2.1, bt754.2.2.1))))
set_option maxHeartbeats 8000000 in
set_option maxRecDepth 100000 in
theorem spec_DrawIsClue.calls (k : Nat) (A0 : Option Addr) (c0 : Nat) (l0 : List Int) (r1 : Int) (r2 : Int) (r3 : Int) (w : World) (hr0 : Kd.C (Kd.int .u8) w A0 l0.length l0) (hc0 : l0.length ≤ c0) (h : spec_DrawIsClue.f k l0 = some (r1, r2, r3)) :
    Calls Try.prog 31 #[.slice A0 l0.length c0] w fun e w' => e = .returned (.agg #[.int .i64 r1, .int .i64 r2, .int .i64 r3]) ∧ Below w.heap.size w w' := by
 have hu28 := Try.underlying28
 have hu81 := Try.underlying81
 have HR0 := Aside0.mk hr0
 have HC0 := Aside0.mk hc0
 clear hr0 hc0
 have HB := Aside0.mk (Below.refl w.heap.size w)
 have H : ((spec_l1Cur_one.f l0 0 0 3).bind fun bt733 => (if bt733.1 = true then ((spec_l1Cur_pick.f l0 bt733.2.1 bt733.2.2 6).bind fun bt736 => ((spec_l1Cur_pick.f l0 bt736.2.1 bt736.2.2 9).bind fun bt739 => ((spec_l1Cur_among.f l0 bt739.2.1 bt739.2.2 (([(-1), 0, 0, 1, 2, 9, 10, 100, 101, 4611686018427387904] : List Int))).bind fun bt745 => ((spec_l1Cur_among.f l0 bt745.2.1 bt745.2.2 (([(-13), (-12), (-1), 0, 1, 2, 12, 13, 24, 25, 100, 101] : List Int))).bind fun bt751 => (some (wrap64 (bt736.1 - (wrap64 (Int.tdiv bt739.1 8))), bt745.1, bt751.1)))))) else ((spec_l1Cur_clue.f k l0 bt733.2.1 bt733.2.2).bind fun bt754 => (some (bt754.1, bt754.2.1, bt754.2.2.1))))) = some (r1, r2, r3) := h
 clear h
 replace H := bindS H; obtain ⟨⟨t733, t734, t735⟩, A2, H⟩ := H
 replace H := iteB H; rcases H with ⟨rfl, H⟩ | ⟨rfl, H⟩
 rotate_left
 ·
  replace H := bindS H; obtain ⟨⟨t754, t755, t756, t757, t758⟩, A23, H⟩ := H
  simp only [Option.some.injEq, Prod.mk.injEq] at H
  obtain ⟨rfl, rfl, rfl⟩ := H
  go_enter Try.func31, Try.ntmps31
  go_wp2_with (first | ((with_reducible refine gate_dst (N := 2) rfl ?_); refine boxK HB (N := 2) (cs := #[.int .i64 0, .int .i64 0, .int .i64 0]) (t := 28) (h := ?_); clear HB; intro gb1 hg w24 BK1 GW1 GE1 HB hb; clear hb hg) | ((with_reducible refine gate_dst (N := 6) rfl ?_); refine boxP (N := 6) (cs := #[.slice A0 l0.length c0, .int .i64 0, .int .u64 0]) (t := 81) (h := ?_); intro gb2 hg w25 hbox hb; obtain ⟨NB1_2, NB2_1⟩ := nv1 hg BK1; replace BK1 := kb BK1 hb; have HI732 := Aside0.mk ((⟨_, _, hbox, (by rw [hg]; exact (below_size (bw HB))), HR0.out⟩ : IsS81 w w25 gb2 l0 0 0)); replace HB := kw HB hb; clear hb hbox hg) | ((with_reducible refine gate_callee (f := 54) rfl ?_); refine goK (some 8) Try.func54 #[.pointer (some ⟨gb2, 0, none⟩), .int .i64 3] ?_; (with_reducible refine (spec_l1Cur_one.calls gb2 l0 0 0 3 false t734 t735 w _ ?side1 ?side2 A2.out).mono ?_); (case side1 => exact IsS81.w HI732); (case side2 => exact IsS81.bw HB HI732); rintro e w26 ⟨rfl, hi, hb, hk⟩; refine ⟨_, rfl, ?_⟩; replace BK1 := kbk BK1 NB1_2 hk; replace HB := Aside0.mk (hb); replace HI732 := Aside0.mk (hi); (try clear hb); (try clear hk); (try clear hi)) | ((with_reducible refine gate_callee (f := 60) rfl ?_); refine goK (some 23) Try.func60 #[.pointer (some ⟨gb2, 0, none⟩)] ?_; (with_reducible refine (spec_l1Cur_clue.calls k gb2 l0 t734 t735 t754 t755 t756 t757 t758 w _ ?side1 ?side2 A23.out).mono ?_); (case side1 => exact IsS81.w HI732); (case side2 => exact IsS81.bw HB HI732); rintro e w27 ⟨rfl, hi, hb, hk⟩; refine ⟨_, rfl, ?_⟩; replace BK1 := kbk BK1 NB1_2 hk; replace HB := Aside0.mk (hb); replace HI732 := Aside0.mk (hi); (try clear hb); (try clear hk); (try clear hi); have hnb28 := up1 NB1_2; obtain ⟨hcz29_0, hcz29_1, hcz29_2, hfz29_0, hfz29_1, hfz29_2⟩ := kc3 BK1))
  refine bodyPost_ret (results_cell_row rfl _ _ gb1 28 #[.int .i64 t754, .int .i64 t755, .int .i64 t756] (0, 0) _ rfl (bt BK1) Try.underlying28 rfl (by kernel_rfl)) rfl ?_
  exact ⟨eqR, (IsS81.bw HB HI732)⟩
 replace H := bindS H; obtain ⟨⟨t736, t737, t738⟩, A4, H⟩ := H
 replace H := bindS H; obtain ⟨⟨t739, t740, t741⟩, A5, H⟩ := H
 obtain ⟨y742, hy742⟩ : ∃ y_ : List Int, y_ = (([(-1), 0, 0, 1, 2, 9, 10, 100, 101, 4611686018427387904] : List Int)) := ⟨_, rfl⟩
 replace H : ((spec_l1Cur_among.f l0 t740 t741 y742).bind fun bt745 => ((spec_l1Cur_among.f l0 bt745.2.1 bt745.2.2 (([(-13), (-12), (-1), 0, 1, 2, 12, 13, 24, 25, 100, 101] : List Int))).bind fun bt751 => (some (wrap64 (t736 - (wrap64 (Int.tdiv t739 8))), bt745.1, bt751.1)))) = some (r1, r2, r3) := by first | (rw [hy742]; with_reducible exact H) | (have H2_ := (Option.bind_some _ _).symm.trans H; first | (rw [hy742]; with_reducible exact H2_) | with_reducible exact H2_) | with_reducible exact H | (rw [hy742]; exact H) | exact H
 have Ny742 := Aside0.mk hy742
 clear hy742
 replace H := bindS H; obtain ⟨⟨t745, t746, t747⟩, A6, H⟩ := H
 obtain ⟨y748, hy748⟩ : ∃ y_ : List Int, y_ = (([(-13), (-12), (-1), 0, 1, 2, 12, 13, 24, 25, 100, 101] : List Int)) := ⟨_, rfl⟩
 replace H : ((spec_l1Cur_among.f l0 t746 t747 y748).bind fun bt751 => (some (wrap64 (t736 - (wrap64 (Int.tdiv t739 8))), t745, bt751.1))) = some (r1, r2, r3) := by first | (rw [hy748]; with_reducible exact H) | (have H2_ := (Option.bind_some _ _).symm.trans H; first | (rw [hy748]; with_reducible exact H2_) | with_reducible exact H2_) | with_reducible exact H | (rw [hy748]; exact H) | exact H
 have Ny748 := Aside0.mk hy748
 clear hy748
 replace H := bindS H; obtain ⟨⟨t751, t752, t753⟩, A7, H⟩ := H
 simp only [Option.some.injEq, Prod.mk.injEq] at H
 obtain ⟨rfl, rfl, rfl⟩ := H
 go_enter Try.func31, Try.ntmps31
 go_wp2_with (first | ((with_reducible refine gate_dst (N := 2) rfl ?_); refine boxK HB (N := 2) (cs := #[.int .i64 0, .int .i64 0, .int .i64 0]) (t := 28) (h := ?_); clear HB; intro gb1 hg w8 BK1 GW1 GE1 HB hb; clear hb hg) | ((with_reducible refine gate_dst (N := 6) rfl ?_); refine boxP (N := 6) (cs := #[.slice A0 l0.length c0, .int .i64 0, .int .u64 0]) (t := 81) (h := ?_); intro gb2 hg w9 hbox hb; obtain ⟨NB1_2, NB2_1⟩ := nv1 hg BK1; replace BK1 := kb BK1 hb; have HI732 := Aside0.mk ((⟨_, _, hbox, (by rw [hg]; exact (below_size (bw HB))), HR0.out⟩ : IsS81 w w9 gb2 l0 0 0)); replace HB := kw HB hb; clear hb hbox hg) | ((with_reducible refine gate_callee (f := 54) rfl ?_); refine goK (some 8) Try.func54 #[.pointer (some ⟨gb2, 0, none⟩), .int .i64 3] ?_; (with_reducible refine (spec_l1Cur_one.calls gb2 l0 0 0 3 true t734 t735 w _ ?side1 ?side2 A2.out).mono ?_); (case side1 => exact IsS81.w HI732); (case side2 => exact IsS81.bw HB HI732); rintro e w10 ⟨rfl, hi, hb, hk⟩; refine ⟨_, rfl, ?_⟩; replace BK1 := kbk BK1 NB1_2 hk; replace HB := Aside0.mk (hb); replace HI732 := Aside0.mk (hi); (try clear hb); (try clear hk); (try clear hi)) | ((with_reducible refine gate_callee (f := 58) rfl ?_); refine goK (some 10) Try.func58 #[.pointer (some ⟨gb2, 0, none⟩), .int .i64 6] ?_; (with_reducible refine (spec_l1Cur_pick.calls gb2 l0 t734 t735 6 t736 t737 t738 w _ ?side1 ?side2 A4.out).mono ?_); (case side1 => exact IsS81.w HI732); (case side2 => exact IsS81.bw HB HI732); rintro e w11 ⟨rfl, hi, hb, hk⟩; refine ⟨_, rfl, ?_⟩; replace BK1 := kbk BK1 NB1_2 hk; replace HB := Aside0.mk (hb); replace HI732 := Aside0.mk (hi); (try clear hb); (try clear hk); (try clear hi)) | ((with_reducible refine gate_callee (f := 58) rfl ?_); refine goK (some 12) Try.func58 #[.pointer (some ⟨gb2, 0, none⟩), .int .i64 9] ?_; (with_reducible refine (spec_l1Cur_pick.calls gb2 l0 t737 t738 9 t739 t740 t741 w _ ?side1 ?side2 A5.out).mono ?_); (case side1 => exact IsS81.w HI732); (case side2 => exact IsS81.bw HB HI732); rintro e w12 ⟨rfl, hi, hb, hk⟩; refine ⟨_, rfl, ?_⟩; replace BK1 := kbk BK1 NB1_2 hk; replace HB := Aside0.mk (hb); replace HI732 := Aside0.mk (hi); (try clear hb); (try clear hk); (try clear hi)) | ((with_reducible refine gate_dst (N := 16) rfl ?_); refine Kd.R_lit (Kd.int .i64) _ 3 ?hg (N := 16) ?hd (xs := ([(-1), 0, 0, 1, 2, 9, 10, 100, 101, 4611686018427387904] : List Int)) (inner := [.int .i64 (-1), .int .i64 0, .int .i64 0, .int .i64 1, .int .i64 2, .int .i64 9, .int .i64 10, .int .i64 100, .int .i64 101, .int .i64 4611686018427387904]) (ok := fun _ => True) (okp := fun _ => True) ?hr ?hp (fun _ hk => hk) trivial (Below.refl _ _) (Nat.le_refl _) (by simp) ?_; (case hd => rfl); (case hg => rfl); (case hr => first | (go_simp; done) | (go_simp; rfl)); (case hp => exact (Reps.one (show Kd.M (Kd.int .i64) _ _ _ (-1) [.int .i64 (-1)] from rfl) (Reps.one (show Kd.M (Kd.int .i64) _ _ _ 0 [.int .i64 0] from rfl) (Reps.one (show Kd.M (Kd.int .i64) _ _ _ 0 [.int .i64 0] from rfl) (Reps.one (show Kd.M (Kd.int .i64) _ _ _ 1 [.int .i64 1] from rfl) (Reps.one (show Kd.M (Kd.int .i64) _ _ _ 2 [.int .i64 2] from rfl) (Reps.one (show Kd.M (Kd.int .i64) _ _ _ 9 [.int .i64 9] from rfl) (Reps.one (show Kd.M (Kd.int .i64) _ _ _ 10 [.int .i64 10] from rfl) (Reps.one (show Kd.M (Kd.int .i64) _ _ _ 100 [.int .i64 100] from rfl) (Reps.one (show Kd.M (Kd.int .i64) _ _ _ 101 [.int .i64 101] from rfl) (Reps.one (show Kd.M (Kd.int .i64) _ _ _ 4611686018427387904 [.int .i64 4611686018427387904] from rfl) (Reps.none _ _)))))))))))); intro v743 w13 ho14 hb hg_ hnew_; clear hg_ hnew_; (first | rw [← Ny742.out] at ho14 | (simp only [Int.reduceToNat] at ho14; rw [← Ny742.out] at ho14)); have HO744 := Aside0.mk (Kd.R_lower ho14 (below_size (IsS81.bw HB HI732))); replace BK1 := kb BK1 hb; replace HB := IsS81.kbw HB HI732 hb; replace HI732 := IsS81.kb HI732 hb; clear hb ho14; obtain ⟨Ao15, co15, eo15⟩ := Kd.R_slice HO744.out; subst eo15) | ((with_reducible refine gate_callee (f := 56) rfl ?_); refine goK (some 17) Try.func56 #[.pointer (some ⟨gb2, 0, none⟩), .slice Ao15 y742.length co15] ?_; (with_reducible refine (spec_l1Cur_among.calls gb2 l0 t740 t741 _ _ y742 t745 t746 t747 w _ ?side1 ?side2 ?side3 ?side4 ?side5 A6.out).mono ?_); (case side1 => exact IsS81.w HI732); (case side2 => exact IsS81.bw HB HI732); (case side3 => exact rs HO744); (case side4 => exact rl HO744); (case side5 => exact far_slice (IsS81.own_ne HI732.out HO744.out (by decide))); rintro e w16 ⟨rfl, hi, hb, hk⟩; refine ⟨_, rfl, ?_⟩; replace BK1 := kbk BK1 NB1_2 hk; replace HO744 := Aside0.mk (Kd.R_mono (Kd.R_keep (IsS81.apart (show IsS81 w _ gb2 l0 t740 t741 from (IsS81.w HI732)) (ro HO744) (by decide)) hk (fun _ h => h.2)) (fun _ h => h.1)); replace HB := Aside0.mk (hb); replace HI732 := Aside0.mk (hi); (try clear hb); (try clear hk); (try clear hi)) | ((with_reducible refine gate_dst (N := 19) rfl ?_); refine Kd.R_lit (Kd.int .i64) _ 3 ?hg (N := 19) ?hd (xs := ([(-13), (-12), (-1), 0, 1, 2, 12, 13, 24, 25, 100, 101] : List Int)) (inner := [.int .i64 (-13), .int .i64 (-12), .int .i64 (-1), .int .i64 0, .int .i64 1, .int .i64 2, .int .i64 12, .int .i64 13, .int .i64 24, .int .i64 25, .int .i64 100, .int .i64 101]) (ok := fun _ => True) (okp := fun _ => True) ?hr ?hp (fun _ hk => hk) trivial (Below.refl _ _) (Nat.le_refl _) (by simp) ?_; (case hd => rfl); (case hg => rfl); (case hr => first | (go_simp; done) | (go_simp; rfl)); (case hp => exact (Reps.one (show Kd.M (Kd.int .i64) _ _ _ (-13) [.int .i64 (-13)] from rfl) (Reps.one (show Kd.M (Kd.int .i64) _ _ _ (-12) [.int .i64 (-12)] from rfl) (Reps.one (show Kd.M (Kd.int .i64) _ _ _ (-1) [.int .i64 (-1)] from rfl) (Reps.one (show Kd.M (Kd.int .i64) _ _ _ 0 [.int .i64 0] from rfl) (Reps.one (show Kd.M (Kd.int .i64) _ _ _ 1 [.int .i64 1] from rfl) (Reps.one (show Kd.M (Kd.int .i64) _ _ _ 2 [.int .i64 2] from rfl) (Reps.one (show Kd.M (Kd.int .i64) _ _ _ 12 [.int .i64 12] from rfl) (Reps.one (show Kd.M (Kd.int .i64) _ _ _ 13 [.int .i64 13] from rfl) (Reps.one (show Kd.M (Kd.int .i64) _ _ _ 24 [.int .i64 24] from rfl) (Reps.one (show Kd.M (Kd.int .i64) _ _ _ 25 [.int .i64 25] from rfl) (Reps.one (show Kd.M (Kd.int .i64) _ _ _ 100 [.int .i64 100] from rfl) (Reps.one (show Kd.M (Kd.int .i64) _ _ _ 101 [.int .i64 101] from rfl) (Reps.none _ _)))))))))))))); intro v749 w17 ho18 hb hg_ hnew_; clear hg_ hnew_; (first | rw [← Ny748.out] at ho18 | (simp only [Int.reduceToNat] at ho18; rw [← Ny748.out] at ho18)); have HO750 := Aside0.mk (Kd.R_lower (Kd.R_new' ho18 (Kd.R_lt (ro HO744))) (below_size (IsS81.bw HB HI732))); replace HO744 := Aside0.mk (Kd.R_elder' (ro HO744) (Kd.R_base ho18) hb); replace BK1 := kb BK1 hb; replace HB := IsS81.kbw HB HI732 hb; replace HI732 := IsS81.kb HI732 hb; clear hb ho18; obtain ⟨Ao19, co19, eo19⟩ := Kd.R_slice HO750.out; subst eo19) | ((with_reducible refine gate_callee (f := 56) rfl ?_); refine goK (some 20) Try.func56 #[.pointer (some ⟨gb2, 0, none⟩), .slice Ao19 y748.length co19] ?_; (with_reducible refine (spec_l1Cur_among.calls gb2 l0 t746 t747 _ _ y748 t751 t752 t753 w _ ?side1 ?side2 ?side3 ?side4 ?side5 A7.out).mono ?_); (case side1 => exact IsS81.w HI732); (case side2 => exact IsS81.bw HB HI732); (case side3 => exact rs HO750); (case side4 => exact rl HO750); (case side5 => exact far_slice (IsS81.own_ne HI732.out HO750.out (by decide))); rintro e w20 ⟨rfl, hi, hb, hk⟩; refine ⟨_, rfl, ?_⟩; replace BK1 := kbk BK1 NB1_2 hk; replace HO744 := Aside0.mk (Kd.R_mono (Kd.R_keep (IsS81.apart (show IsS81 w _ gb2 l0 t746 t747 from (IsS81.w HI732)) (ro HO744) (by decide)) hk (fun _ h => h.2)) (fun _ h => h.1)); replace HO750 := Aside0.mk (Kd.R_mono (Kd.R_keep (IsS81.apart (show IsS81 w _ gb2 l0 t746 t747 from (IsS81.w HI732)) (ro HO750) (by decide)) hk (fun _ h => h.2)) (fun _ h => h.1)); replace HB := Aside0.mk (hb); replace HI732 := Aside0.mk (hi); (try clear hb); (try clear hk); (try clear hi); have hnb21 := up1 NB1_2; obtain ⟨hcz22_0, hcz22_1, hcz22_2, hfz22_0, hfz22_1, hfz22_2⟩ := kc3 BK1))
 refine bodyPost_ret (results_cell_row rfl _ _ gb1 28 #[.int .i64 (wrap64 (t736 - (wrap64 (Int.tdiv t739 8)))), .int .i64 t745, .int .i64 t751] (0, 0) _ rfl (bt BK1) Try.underlying28 rfl (by kernel_rfl)) rfl ?_
 exact ⟨eqR, (IsS81.bw HB HI732)⟩

end Go.Proofs.Ytlpjooijkeadbaa.PH
