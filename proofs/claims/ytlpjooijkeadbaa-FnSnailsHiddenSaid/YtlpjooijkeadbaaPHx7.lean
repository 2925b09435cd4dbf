-- Written by a program of our own (wip/tools/xprint.py) for this claim; Lean checks it.
import Derived.Test.YtlpjooijkeadbaaPHx0
import Derived.Test.YtlpjooijkeadbaaPHx5
import Derived.Test.YtlpjooijkeadbaaPHx6
namespace Go.Proofs.Ytlpjooijkeadbaa.PH
open Go.RowKit Go.Proofs.YtlpjooijkeadbaaK Go.Proofs.YtlpjooijkeadbaaW.PrintWords Go.Proofs.YtlpjooijkeadbaaW.PrintLast Go.Proofs.YtlpjooijkeadbaaW.PrintMore
attribute [local go_sem] max2_int min2_int max_two min_two max_three min_three max_four min_four   -- for this text's walks alone
set_option linter.unusedVariables false
set_option linter.unusedSimpArgs false

attribute [local go_sem high] eqA23
/-! ### spec_HarderPuzzle: function 13 -/
mutual
def spec_HarderPuzzle.j0 : Nat → Bool → List (S28) → Option ((List (S28)) × Bool)
  | 0, _, _ => none
  | k + 1, x15, x273000 => if x15 = true then (some (([] : List (S28)), false)) else ((some (([] : List (S28)) : List (S28))).bind fun y276 => (if y276.length + x273000.length < 5864062014805 then (spec_HarderPuzzle.l0 k (y276 ++ x273000) 0) else (none)))
def spec_HarderPuzzle.l0 : Nat → List (S28) → Int → Option ((List (S28)) × Bool)
  | 0, _, _ => none
  | k + 1, x4, x5 => if x5 < (x4.length : Int) then ((spec_pzWithout.f x4 x5).bind fun t282 => ((spec_pzSolved.f k t282).bind fun t285 => (if t285 = true then (spec_HarderPuzzle.l0 k t282 x5) else (spec_HarderPuzzle.l0 k x4 (wrap64 (x5 + 1)))))) else (some (x4, true))
end
def spec_HarderPuzzle.f (k : Nat) (l0_0 : List (S28)) : Option ((List (S28)) × Bool) := (spec_pzGood.f k l0_0).bind fun t274 => (if t274 = true then ((spec_pzSolved.f k l0_0).bind fun t275 => (spec_HarderPuzzle.j0 k (!t275) l0_0)) else (spec_HarderPuzzle.j0 k true l0_0))
set_option maxHeartbeats 8000000 in
set_option maxRecDepth 100000 in
theorem spec_HarderPuzzle.calls (k : Nat) (A0_0 : Option Addr) (c0_0 : Nat) (l0_0 : List (S28)) (r1 : List (S28)) (r2 : Bool) (w : World) (hr0_0 : Kd.C k28 w A0_0 l0_0.length l0_0) (hc0_0 : l0_0.length ≤ c0_0) (h : spec_HarderPuzzle.f k l0_0 = some (r1, r2)) :
    Calls Try.prog 13 #[.agg #[.slice A0_0 l0_0.length c0_0]] w fun e w' => ∃ v0_ : Value, e = .returned (.tuple #[.agg #[v0_], .bool r2]) ∧ Kd.R k28 28 w' w.heap.size (fun _ => True) v0_ r1 ∧ Below w.heap.size w w' := by
 have hu26 := Try.underlying26
 have HR0_0 := Aside0.mk hr0_0
 have HC0_0 := Aside0.mk hc0_0
 clear hr0_0 hc0_0
 have HB := Aside0.mk (Below.refl w.heap.size w)
 have H : ((spec_pzGood.f k l0_0).bind fun t274 => (if t274 = true then ((spec_pzSolved.f k l0_0).bind fun t275 => (spec_HarderPuzzle.j0 k (!t275) l0_0)) else (spec_HarderPuzzle.j0 k true l0_0))) = some (r1, r2) := h
 clear h
 have HC2 := Aside0.mk H
 clear H
 go_enter Try.func13, Try.ntmps13
 go_upto_region 1 with (first | ((with_reducible refine gate_dst (N := 1) rfl ?_); refine boxK HB (N := 1) (cs := #[.slice A0_0 l0_0.length c0_0]) (t := 26) (h := ?_); clear HB; intro gb1 hg w3 BK1 GW1 GE1 HB hb; clear hb hg) | ((with_reducible refine gate_dst (N := 2) rfl ?_); refine boxK HB (N := 2) (cs := #[.slice none 0 0]) (t := 26) (h := ?_); clear HB; intro gb2 hg w4 BK2 GW2 GE2 HB hb; obtain ⟨NB1_2, NB2_1⟩ := nv1 hg BK1; replace BK1 := kb BK1 hb; clear hb hg))
 (try simp only [Act.put, List.setIfInBounds_toArray, List.set_cons_zero, List.set_cons_succ])
 go_cut [15] (fun v15 wc => ∃ (kq : Nat) (x15_1 : Bool), v15 = .bool x15_1 ∧ Aside0 (spec_HarderPuzzle.j0 kq x15_1 l0_0 = some (r1, r2)) ∧ Aside0 (kq ≤ k) ∧ Aside0 (wc.heap[gb1]? = some (.cells #[(.slice A0_0 l0_0.length c0_0)] 26 (0, 0))) ∧ Aside0 (wc.heap[gb2]? = some (.cells #[(.slice none 0 0)] 26 (0, 0))) ∧ Aside0 (Below w.heap.size w wc))
 case first =>
  have H := HC2.out
  clear HC2
  replace H := bindS H; obtain ⟨t274, A5, H⟩ := H
  replace H := iteB H; rcases H with ⟨rfl, H⟩ | ⟨rfl, H⟩
  ·
   replace H := bindS H; obtain ⟨t275, A7, H⟩ := H
   have H' := Aside0.mk H
   clear H
   have hnb8 := up1 NB1_2
   obtain ⟨hcz9_0, hfz9_0⟩ := kc1 BK1
   go_wp2_with (first | ((with_reducible refine gate_callee (f := 49) rfl ?_); refine goK (some 8) Try.func49 #[.agg #[.slice A0_0 l0_0.length c0_0]] ?_; (with_reducible refine (spec_pzGood.calls k _ _ l0_0 true _ ?side1 ?side2 A5.out).mono ?_); (case side1 => exact cb HR0_0 HB); (case side2 => exact HC0_0.out); rintro e w10 ⟨rfl, hb⟩; refine ⟨_, rfl, ?_⟩; refine mv2 hb BK1 BK2 ?_; clear BK1 BK2; intro BK1 BK2; replace HB := kw HB hb; (try clear hb); obtain ⟨hcz11_0, hfz11_0⟩ := kc1 BK1) | (go_at_call 50; (with_reducible refine (spec_pzSolved.calls k _ _ l0_0 t275 _ ?side1 ?side2 A7.out).mono ?_); (case side1 => exact cb HR0_0 HB); (case side2 => exact HC0_0.out); rintro e w12 ⟨rfl, hb⟩; refine mv2 hb BK1 BK2 ?_; clear BK1 BK2; intro BK1 BK2; replace HB := kw HB hb; (try clear hb)))
   go_meet
   case rel => exact ⟨_, (!t275), (by first | rfl | (simp; done) | (simp [*]; done)), H', ⟨by first | omega | exact Nat.le_refl _⟩, ⟨bk BK1⟩, ⟨bk BK2⟩, ⟨bw HB⟩⟩
  have H' := Aside0.mk H
  clear H
  have hnb13 := up1 NB1_2
  obtain ⟨hcz14_0, hfz14_0⟩ := kc1 BK1
  go_wp2_with (first | ((with_reducible refine gate_callee (f := 49) rfl ?_); refine goK (some 8) Try.func49 #[.agg #[.slice A0_0 l0_0.length c0_0]] ?_; (with_reducible refine (spec_pzGood.calls k _ _ l0_0 false _ ?side1 ?side2 A5.out).mono ?_); (case side1 => exact cb HR0_0 HB); (case side2 => exact HC0_0.out); rintro e w15 ⟨rfl, hb⟩; refine ⟨_, rfl, ?_⟩; refine mv2 hb BK1 BK2 ?_; clear BK1 BK2; intro BK1 BK2; replace HB := kw HB hb; (try clear hb)))
  go_meet
  case rel => exact ⟨_, (true), (by first | rfl | (simp; done) | (simp [*]; done)), H', ⟨by first | omega | exact Nat.le_refl _⟩, ⟨bk BK1⟩, ⟨bk BK2⟩, ⟨bw HB⟩⟩
 case rest =>
  clear HC2
  obtain ⟨kq, x15_1, rfl, HA, HJ1, BK1, BK2, HB⟩ := hcut
  cases kq with
  | zero => exact absurd HA.out (by simp [spec_HarderPuzzle.j0])
  | succ kj1 =>
   have H := HA.out
   clear HA
   simp only [spec_HarderPuzzle.j0] at H
   replace H := iteB H; rcases H with ⟨rfl, H⟩ | ⟨rfl, H⟩
   ·
    simp only [Option.some.injEq, Prod.mk.injEq] at H
    obtain ⟨rfl, rfl⟩ := H
    have hnb17 := up1 NB2_1
    obtain ⟨hcz18_0, hfz18_0⟩ := kc1 BK2
    go_wp2
    refine bodyPost_ret (results_ct rfl _ _ gb2 26 #[.slice none 0 0] (0, 0) _ rfl (bt BK2) Try.underlying26 rfl (by kernel_rfl)) rfl ?_
    exact ⟨_, eqR, by first | exact Kd.R_nil _ _ _ _ _ | exact Kd.N_nil _ _ _ _ _ | exact Kd.V_nil _ _ _ _ _ | exact Kd.Q_nil _ _ _ _ _ | exact Kd.S_nil _ _ _ _ _, bw HB⟩
   obtain ⟨y276, hy276⟩ : ∃ y_ : List (S28), y_ = (([] : List (S28))) := ⟨_, rfl⟩
   replace H : (if y276.length + l0_0.length < 5864062014805 then (spec_HarderPuzzle.l0 kj1 (y276 ++ l0_0) 0) else (none)) = some (r1, r2) := by first | (rw [hy276]; with_reducible exact H) | (have H2_ := (Option.bind_some _ _).symm.trans H; first | (rw [hy276]; with_reducible exact H2_) | with_reducible exact H2_) | with_reducible exact H | (rw [hy276]; exact H) | exact H
   have Ny276 := Aside0.mk hy276
   clear hy276
   replace H := iteS H; obtain ⟨c19, H⟩ := H
   have LMc19 := Aside0.mk c19
   clear c19
   obtain ⟨y279, hy279⟩ : ∃ y_ : List (S28), y_ = (y276 ++ l0_0) := ⟨_, rfl⟩
   replace H : (spec_HarderPuzzle.l0 kj1 y279 0) = some (r1, r2) := by first | (rw [hy279]; with_reducible exact H) | (have H2_ := (Option.bind_some _ _).symm.trans H; first | (rw [hy279]; with_reducible exact H2_) | with_reducible exact H2_) | with_reducible exact H | (rw [hy279]; exact H) | exact H
   have Ny279 := Aside0.mk hy279
   clear hy279
   have H' := Aside0.mk H
   clear H
   go_wp2_with (first | ((with_reducible refine gate_dst (N := 17) rfl ?_); refine Kd.R_lit k28 _ 28 ?hg (N := 17) ?hd (xs := ([] : List (S28))) (inner := []) (ok := fun _ => True) (okp := fun _ => True) ?hr ?hp (fun _ hk => hk) trivial (Below.refl _ _) (Nat.le_refl _) (by simp) ?_; (case hd => rfl); (case hg => rfl); (case hr => first | (go_simp; done) | (go_simp; rfl)); (case hp => exact (Reps.none _ _)); intro v277 w20 ho21 hb hg_ hnew_; clear hg_ hnew_; (first | rw [← Ny276.out] at ho21 | (simp only [Int.reduceToNat] at ho21; rw [← Ny276.out] at ho21)); have HO278 := Aside0.mk (Kd.R_lower ho21 (below_size (bw HB))); refine mv2 hb BK1 BK2 ?_; clear BK1 BK2; intro BK1 BK2; replace HB := kw HB hb; clear hb ho21; have hnb22 := up1 NB1_2; obtain ⟨hcz23_0, hfz23_0⟩ := kc1 BK1) | ((with_reducible refine gate_builtin (b := .append) (xs := #[.tmp 17, .tmp 19]) rfl ?_); at_builtin; refine Kd.R_append_rows k28 (w0 := w) w.heap.size rfl (.tmp 17) (.tmp 19) 24 28 (.agg #[(.int .i64 0), (.int .i64 0), (.int .i64 0)]) 24 rfl Try.underlying24 info28 rfl (by decide) (by omega) v277 y276 l0_0 _ _ _ (fun _ => True) (fun _ => False) rfl rfl ?aO ?aR (fun _ _ h => h) (fun _ h => h.elim) ?aF ?aB ?aS ?aL ?_; (case aR => exact cb HR0_0 HB); (case aB => exact (bw HB)); (case aF => exact (fun _ _ => trivial)); (case aO => exact (ro HO278)); (case aS => exact (below_size (bw HB))); (case aL => have := LMc19.out; omega); intro v280 w24 ho hb hg hat; rw [← Ny279.out] at ho; replace BK1 := Aside0.mk (blk_grown (bk BK1) hg (Kd.R_ne HO278.out BK1.out (by decide))); replace BK2 := Aside0.mk (blk_grown (bk BK2) hg (Kd.R_ne HO278.out BK2.out (by decide))); replace HB := Aside0.mk (hb); have HO281 := Aside0.mk (ho); clear HO278; clear ho hb hg hat))
   go_loopg [4, 5] kj1 (fun kq v4 v5 w' => ∃ (x4_2 : List (S28)) (x5_2 : Int), v5 = .int .i64 x5_2 ∧ Aside0 (spec_HarderPuzzle.l0 kq x4_2 x5_2 = some (r1, r2)) ∧ Aside0 (kq ≤ kj1) ∧ Aside0 (Kd.R k28 28 w' w.heap.size (fun _ => True) v4 x4_2) ∧ Aside0 (w'.heap[gb1]? = some (.cells #[(.slice A0_0 l0_0.length c0_0)] 26 (0, 0))) ∧ Aside0 (w'.heap[gb2]? = some (.cells #[(.slice none 0 0)] 26 (0, 0))) ∧ Aside0 (Below w.heap.size w w'))
   case atStart => exact ⟨(y279), (0), (by first | rfl | (simp; done) | (simp [*]; done)), H', ⟨Nat.le_refl _⟩, ⟨ro HO281⟩, ⟨bk BK1⟩, ⟨bk BK2⟩, ⟨bw HB⟩⟩
   case round =>
    clear H'
    try clear c19
    try clear hcz23_0
    try clear hfz23_0
    obtain ⟨x4_2, x5_2, rfl, HA, HK2, HO_4, BK1, BK2, HB⟩ := hrel
    cases gk with
    | zero => exact absurd HA.out (by simp [spec_HarderPuzzle.l0])
    | succ k2 =>
     have H := HA.out
     clear HA
     simp only [spec_HarderPuzzle.l0] at H
     replace H := iteC H; rcases H with ⟨c25, H⟩ | ⟨c25, H⟩
     rotate_left
     ·
      have c25b0 : decide (x5_2 < (x4_2.length : Int)) = false := decide_eq_false c25
      clear c25
      simp only [Option.some.injEq, Prod.mk.injEq] at H
      obtain ⟨rfl, rfl⟩ := H
      obtain ⟨Ao37, co37, eo37⟩ := Kd.R_slice HO_4.out
      subst eo37
      have hnb38 := up1 NB2_1
      obtain ⟨hcz39_0, hfz39_0⟩ := kc1 BK2
      go_wp2
      refine bodyPost_ret (results_ct rfl _ _ gb2 26 #[.slice Ao37 x4_2.length co37] (0, 0) _ rfl (bt BK2) Try.underlying26 rfl (by kernel_rfl)) rfl ?_
      exact ⟨_, eqR, by (with_reducible repeat (first | apply Kd.R_alloc | apply Kd.R_drewN | apply Kd.R_drew)); exact Kd.R_mono (Kd.R_far (p := ⟨gb2, 0, none⟩) (Kd.R_types HO_4.out BK2.out (by decide)) (fun _ hk => hk.2) (.slice Ao37 x4_2.length co37)) (fun _ hk => trivial), bw HB⟩
     have c25b0 : decide (x5_2 < (x4_2.length : Int)) = true := decide_eq_true c25
     clear c25
     replace H := bindS H; obtain ⟨t282, A26, H⟩ := H
     replace H := bindS H; obtain ⟨t285, A27, H⟩ := H
     replace H := iteB H; rcases H with ⟨rfl, H⟩ | ⟨rfl, H⟩
     ·
      have H' := Aside0.mk H
      clear H
      obtain ⟨Ao29, co29, eo29⟩ := Kd.R_slice HO_4.out
      subst eo29
      go_wp2_with (first | ((with_reducible refine gate_callee (f := 51) rfl ?_); refine goK (some 27) Try.func51 #[.slice Ao29 x4_2.length co29, .int .i64 x5_2] ?_; (with_reducible refine (spec_pzWithout.calls _ _ x4_2 x5_2 t282 _ ?side1 ?side2 A26.out).mono ?_); (case side1 => exact rs HO_4); (case side2 => exact rl HO_4); rintro e w30 ⟨v283, rfl, ho0, hb⟩; refine ⟨_, rfl, ?_⟩; have HO284 := Aside0.mk (Kd.R_lower (Kd.R_new' ho0 (Kd.R_lt (ro HO_4))) (below_size (bw HB))); replace HO_4 := Aside0.mk (Kd.R_elder' (ro HO_4) (Kd.R_base ho0) hb); refine mv2 hb BK1 BK2 ?_; clear BK1 BK2; intro BK1 BK2; replace HB := kw HB hb; (try clear hb); (try clear ho0); obtain ⟨Ao31, co31, eo31⟩ := Kd.R_slice HO284.out; subst eo31) | ((with_reducible refine gate_callee (f := 50) rfl ?_); refine goK (some 29) Try.func50 #[.slice Ao31 t282.length co31] ?_; (with_reducible refine (spec_pzSolved.calls k2 _ _ t282 true _ ?side1 ?side2 A27.out).mono ?_); (case side1 => exact rs HO284); (case side2 => exact rl HO284); rintro e w32 ⟨rfl, hb⟩; refine ⟨_, rfl, ?_⟩; replace HO_4 := ko HO_4 hb; replace HO284 := ko HO284 hb; refine mv2 hb BK1 BK2 ?_; clear BK1 BK2; intro BK1 BK2; replace HB := kw HB hb; (try clear hb)))
      go_roundg k2
      case measure => have := HJ1.out; have := HK2.out; omega
      case rel => exact ⟨(t282), (x5_2), (by first | rfl | (simp; done) | (simp [*]; done)), H', ⟨by have := HJ1.out; have := HK2.out; omega⟩, ⟨by (with_reducible repeat (first | apply Kd.R_alloc | apply Kd.R_drewN | apply Kd.R_drew)); exact Kd.R_mono HO284.out (fun _ hk => trivial)⟩, ⟨bk BK1⟩, ⟨bk BK2⟩, ⟨bw HB⟩⟩
     have H' := Aside0.mk H
     clear H
     obtain ⟨Ao33, co33, eo33⟩ := Kd.R_slice HO_4.out
     subst eo33
     go_wp2_with (first | ((with_reducible refine gate_callee (f := 51) rfl ?_); refine goK (some 27) Try.func51 #[.slice Ao33 x4_2.length co33, .int .i64 x5_2] ?_; (with_reducible refine (spec_pzWithout.calls _ _ x4_2 x5_2 t282 _ ?side1 ?side2 A26.out).mono ?_); (case side1 => exact rs HO_4); (case side2 => exact rl HO_4); rintro e w34 ⟨v283, rfl, ho0, hb⟩; refine ⟨_, rfl, ?_⟩; have HO284 := Aside0.mk (Kd.R_lower (Kd.R_new' ho0 (Kd.R_lt (ro HO_4))) (below_size (bw HB))); replace HO_4 := Aside0.mk (Kd.R_elder' (ro HO_4) (Kd.R_base ho0) hb); refine mv2 hb BK1 BK2 ?_; clear BK1 BK2; intro BK1 BK2; replace HB := kw HB hb; (try clear hb); (try clear ho0); obtain ⟨Ao35, co35, eo35⟩ := Kd.R_slice HO284.out; subst eo35) | ((with_reducible refine gate_callee (f := 50) rfl ?_); refine goK (some 29) Try.func50 #[.slice Ao35 t282.length co35] ?_; (with_reducible refine (spec_pzSolved.calls k2 _ _ t282 false _ ?side1 ?side2 A27.out).mono ?_); (case side1 => exact rs HO284); (case side2 => exact rl HO284); rintro e w36 ⟨rfl, hb⟩; refine ⟨_, rfl, ?_⟩; replace HO_4 := ko HO_4 hb; replace HO284 := ko HO284 hb; refine mv2 hb BK1 BK2 ?_; clear BK1 BK2; intro BK1 BK2; replace HB := kw HB hb; (try clear hb)))
     go_roundg k2
     case measure => have := HJ1.out; have := HK2.out; omega
     case rel => exact ⟨(x4_2), (wrap64 (x5_2 + 1)), (by first | rfl | (simp; done) | (simp [*]; done)), H', ⟨by have := HJ1.out; have := HK2.out; omega⟩, ⟨by (with_reducible repeat (first | apply Kd.R_alloc | apply Kd.R_drewN | apply Kd.R_drew)); exact Kd.R_mono HO_4.out (fun _ hk => trivial)⟩, ⟨bk BK1⟩, ⟨bk BK2⟩, ⟨bw HB⟩⟩

/-! ### impl_IsSolved: function 14 -/
def impl_IsSolved.f (k : Nat) (l0_0 : List (S28)) : Option (Bool × Bool) := (impl_IsPuzzle.f k l0_0).bind fun t287 => (if t287 = true then ((impl_solutions.f k l0_0).bind fun t288 => (some (((t288.length : Int) == 1), true))) else (some (false, false)))
set_option maxHeartbeats 8000000 in
set_option maxRecDepth 100000 in
theorem impl_IsSolved.calls (k : Nat) (A0_0 : Option Addr) (c0_0 : Nat) (l0_0 : List (S28)) (r1 : Bool) (r2 : Bool) (w : World) (hr0_0 : Kd.C k28 w A0_0 l0_0.length l0_0) (hc0_0 : l0_0.length ≤ c0_0) (h : impl_IsSolved.f k l0_0 = some (r1, r2)) :
    Calls Try.prog 14 #[.agg #[.slice A0_0 l0_0.length c0_0]] w fun e w' => e = .returned (.tuple #[.bool r1, .bool r2]) ∧ Below w.heap.size w w' := by
 have hu26 := Try.underlying26
 have HR0_0 := Aside0.mk hr0_0
 have HC0_0 := Aside0.mk hc0_0
 clear hr0_0 hc0_0
 have HB := Aside0.mk (Below.refl w.heap.size w)
 have H : ((impl_IsPuzzle.f k l0_0).bind fun t287 => (if t287 = true then ((impl_solutions.f k l0_0).bind fun t288 => (some (((t288.length : Int) == 1), true))) else (some (false, false)))) = some (r1, r2) := h
 clear h
 replace H := bindS H; obtain ⟨t287, A2, H⟩ := H
 replace H := iteB H; rcases H with ⟨rfl, H⟩ | ⟨rfl, H⟩
 ·
  replace H := bindS H; obtain ⟨t288, A4, H⟩ := H
  simp only [Option.some.injEq, Prod.mk.injEq] at H
  obtain ⟨rfl, rfl⟩ := H
  go_enter Try.func14, Try.ntmps14
  go_wp2_with (first | ((with_reducible refine gate_dst (N := 1) rfl ?_); refine boxK HB (N := 1) (cs := #[.slice A0_0 l0_0.length c0_0]) (t := 26) (h := ?_); clear HB; intro gb1 hg w5 BK1 GW1 GE1 HB hb; clear hb hg; obtain ⟨hcz6_0, hfz6_0⟩ := kc1 BK1) | ((with_reducible refine gate_callee (f := 11) rfl ?_); refine goK (some 5) Try.func11 #[.agg #[.slice A0_0 l0_0.length c0_0]] ?_; (with_reducible refine (impl_IsPuzzle.calls k _ _ l0_0 true _ ?side1 ?side2 A2.out).mono ?_); (case side1 => exact cb HR0_0 HB); (case side2 => exact HC0_0.out); rintro e w7 ⟨rfl, hb⟩; refine ⟨_, rfl, ?_⟩; replace BK1 := kb BK1 hb; replace HB := kw HB hb; (try clear hb); obtain ⟨hcz8_0, hfz8_0⟩ := kc1 BK1) | ((with_reducible refine gate_callee (f := 46) rfl ?_); refine goK (some 9) Try.func46 #[.slice A0_0 l0_0.length c0_0] ?_; (with_reducible refine (impl_solutions.calls k _ _ l0_0 t288 _ ?side1 ?side2 A4.out).mono ?_); (case side1 => exact cb HR0_0 HB); (case side2 => exact HC0_0.out); rintro e w9 ⟨v289, rfl, ho0, hb⟩; refine ⟨_, rfl, ?_⟩; have HO290 := Aside0.mk (Kd.R_lower ho0 (below_size (bw HB))); replace BK1 := kb BK1 hb; replace HB := kw HB hb; (try clear hb); (try clear ho0); obtain ⟨Ao10, co10, eo10⟩ := Kd.R_slice HO290.out; subst eo10))
  go_ret2
  exact ⟨eqR, bw HB⟩
 simp only [Option.some.injEq, Prod.mk.injEq] at H
 obtain ⟨rfl, rfl⟩ := H
 go_enter Try.func14, Try.ntmps14
 go_wp2_with (first | ((with_reducible refine gate_dst (N := 1) rfl ?_); refine boxK HB (N := 1) (cs := #[.slice A0_0 l0_0.length c0_0]) (t := 26) (h := ?_); clear HB; intro gb1 hg w11 BK1 GW1 GE1 HB hb; clear hb hg; obtain ⟨hcz12_0, hfz12_0⟩ := kc1 BK1) | ((with_reducible refine gate_callee (f := 11) rfl ?_); refine goK (some 5) Try.func11 #[.agg #[.slice A0_0 l0_0.length c0_0]] ?_; (with_reducible refine (impl_IsPuzzle.calls k _ _ l0_0 false _ ?side1 ?side2 A2.out).mono ?_); (case side1 => exact cb HR0_0 HB); (case side2 => exact HC0_0.out); rintro e w13 ⟨rfl, hb⟩; refine ⟨_, rfl, ?_⟩; replace BK1 := kb BK1 hb; replace HB := kw HB hb; (try clear hb)))
 go_ret2
 exact ⟨eqR, bw HB⟩

/-! ### impl_Solutions: function 15 -/
def impl_Solutions.f (k : Nat) (l0_0 : List (S28)) : Option ((List (S23)) × Bool) := (impl_IsPuzzle.f k l0_0).bind fun t292 => (if t292 = true then ((impl_solutions.f k l0_0).bind fun t293 => (some (t293, true))) else (some (([] : List (S23)), false)))
set_option maxHeartbeats 8000000 in
set_option maxRecDepth 100000 in
theorem impl_Solutions.calls (k : Nat) (A0_0 : Option Addr) (c0_0 : Nat) (l0_0 : List (S28)) (r1 : List (S23)) (r2 : Bool) (w : World) (hr0_0 : Kd.C k28 w A0_0 l0_0.length l0_0) (hc0_0 : l0_0.length ≤ c0_0) (h : impl_Solutions.f k l0_0 = some (r1, r2)) :
    Calls Try.prog 15 #[.agg #[.slice A0_0 l0_0.length c0_0]] w fun e w' => ∃ v0_ : Value, e = .returned (.tuple #[v0_, .bool r2]) ∧ Kd.R k23 23 w' w.heap.size (fun _ => True) v0_ r1 ∧ Below w.heap.size w w' := by
 have hu26 := Try.underlying26
 have HR0_0 := Aside0.mk hr0_0
 have HC0_0 := Aside0.mk hc0_0
 clear hr0_0 hc0_0
 have HB := Aside0.mk (Below.refl w.heap.size w)
 have H : ((impl_IsPuzzle.f k l0_0).bind fun t292 => (if t292 = true then ((impl_solutions.f k l0_0).bind fun t293 => (some (t293, true))) else (some (([] : List (S23)), false)))) = some (r1, r2) := h
 clear h
 replace H := bindS H; obtain ⟨t292, A2, H⟩ := H
 replace H := iteB H; rcases H with ⟨rfl, H⟩ | ⟨rfl, H⟩
 ·
  replace H := bindS H; obtain ⟨t293, A4, H⟩ := H
  simp only [Option.some.injEq, Prod.mk.injEq] at H
  obtain ⟨rfl, rfl⟩ := H
  go_enter Try.func15, Try.ntmps15
  go_wp2_with (first | ((with_reducible refine gate_dst (N := 1) rfl ?_); refine boxK HB (N := 1) (cs := #[.slice A0_0 l0_0.length c0_0]) (t := 26) (h := ?_); clear HB; intro gb1 hg w5 BK1 GW1 GE1 HB hb; clear hb hg; obtain ⟨hcz6_0, hfz6_0⟩ := kc1 BK1) | ((with_reducible refine gate_callee (f := 11) rfl ?_); refine goK (some 5) Try.func11 #[.agg #[.slice A0_0 l0_0.length c0_0]] ?_; (with_reducible refine (impl_IsPuzzle.calls k _ _ l0_0 true _ ?side1 ?side2 A2.out).mono ?_); (case side1 => exact cb HR0_0 HB); (case side2 => exact HC0_0.out); rintro e w7 ⟨rfl, hb⟩; refine ⟨_, rfl, ?_⟩; replace BK1 := kb BK1 hb; replace HB := kw HB hb; (try clear hb); obtain ⟨hcz8_0, hfz8_0⟩ := kc1 BK1) | ((with_reducible refine gate_callee (f := 46) rfl ?_); refine goK (some 9) Try.func46 #[.slice A0_0 l0_0.length c0_0] ?_; (with_reducible refine (impl_solutions.calls k _ _ l0_0 t293 _ ?side1 ?side2 A4.out).mono ?_); (case side1 => exact cb HR0_0 HB); (case side2 => exact HC0_0.out); rintro e w9 ⟨v294, rfl, ho0, hb⟩; refine ⟨_, rfl, ?_⟩; have HO295 := Aside0.mk (Kd.R_lower ho0 (below_size (bw HB))); replace BK1 := kb BK1 hb; replace HB := kw HB hb; (try clear hb); (try clear ho0)))
  go_ret2
  exact ⟨_, eqR, ro HO295, bw HB⟩
 simp only [Option.some.injEq, Prod.mk.injEq] at H
 obtain ⟨rfl, rfl⟩ := H
 go_enter Try.func15, Try.ntmps15
 go_wp2_with (first | ((with_reducible refine gate_dst (N := 1) rfl ?_); refine boxK HB (N := 1) (cs := #[.slice A0_0 l0_0.length c0_0]) (t := 26) (h := ?_); clear HB; intro gb1 hg w10 BK1 GW1 GE1 HB hb; clear hb hg; obtain ⟨hcz11_0, hfz11_0⟩ := kc1 BK1) | ((with_reducible refine gate_callee (f := 11) rfl ?_); refine goK (some 5) Try.func11 #[.agg #[.slice A0_0 l0_0.length c0_0]] ?_; (with_reducible refine (impl_IsPuzzle.calls k _ _ l0_0 false _ ?side1 ?side2 A2.out).mono ?_); (case side1 => exact cb HR0_0 HB); (case side2 => exact HC0_0.out); rintro e w12 ⟨rfl, hb⟩; refine ⟨_, rfl, ?_⟩; replace BK1 := kb BK1 hb; replace HB := kw HB hb; (try clear hb)))
 go_ret2
 exact ⟨_, eqR, by first | exact Kd.R_nil _ _ _ _ _ | exact Kd.N_nil _ _ _ _ _ | exact Kd.V_nil _ _ _ _ _ | exact Kd.Q_nil _ _ _ _ _ | exact Kd.S_nil _ _ _ _ _, bw HB⟩

/-! ### impl_NeedlessClues: function 16 -/
def impl_NeedlessClues.l0 : Nat → Int → List Int → Int → Int → List (S28) → Option (List Int × Bool)
  | 0, _, _, _, _, _ => none
  | k + 1, x4, x5, x16, x17, x297000 => if x17 < x16 then ((impl_withoutClue.f x297000 x17).bind fun t301 => ((impl_solutions.f k t301).bind fun t304 => (if (t304.length : Int) = x4 then (if x5.length < 17592186044416 then (impl_NeedlessClues.l0 k x4 (x5 ++ [x17]) x16 (wrap64 (x17 + 1)) x297000) else (none)) else (impl_NeedlessClues.l0 k x4 x5 x16 (wrap64 (x17 + 1)) x297000)))) else (some (x5, true))
def impl_NeedlessClues.f (k : Nat) (l0_0 : List (S28)) : Option (List Int × Bool) := (impl_IsPuzzle.f k l0_0).bind fun t297 => (if t297 = true then ((impl_solutions.f k l0_0).bind fun t298 => (impl_NeedlessClues.l0 k (t298.length : Int) ([] : List Int) (l0_0.length : Int) 0 l0_0)) else (some (([] : List Int), false)))
set_option maxHeartbeats 8000000 in
set_option maxRecDepth 100000 in
theorem impl_NeedlessClues.calls (k : Nat) (A0_0 : Option Addr) (c0_0 : Nat) (l0_0 : List (S28)) (r1 : List Int) (r2 : Bool) (w : World) (hr0_0 : Kd.C k28 w A0_0 l0_0.length l0_0) (hc0_0 : l0_0.length ≤ c0_0) (h : impl_NeedlessClues.f k l0_0 = some (r1, r2)) :
    Calls Try.prog 16 #[.agg #[.slice A0_0 l0_0.length c0_0]] w fun e w' => ∃ v0_ : Value, e = .returned (.tuple #[v0_, .bool r2]) ∧ Kd.R (Kd.int .i64) 3 w' w.heap.size (fun _ => True) v0_ r1 ∧ Below w.heap.size w w' := by
 have hu26 := Try.underlying26
 have HR0_0 := Aside0.mk hr0_0
 have HC0_0 := Aside0.mk hc0_0
 clear hr0_0 hc0_0
 have HB := Aside0.mk (Below.refl w.heap.size w)
 have H : ((impl_IsPuzzle.f k l0_0).bind fun t297 => (if t297 = true then ((impl_solutions.f k l0_0).bind fun t298 => (impl_NeedlessClues.l0 k (t298.length : Int) ([] : List Int) (l0_0.length : Int) 0 l0_0)) else (some (([] : List Int), false)))) = some (r1, r2) := h
 clear h
 replace H := bindS H; obtain ⟨t297, A2, H⟩ := H
 replace H := iteB H; rcases H with ⟨rfl, H⟩ | ⟨rfl, H⟩
 rotate_left
 ·
  simp only [Option.some.injEq, Prod.mk.injEq] at H
  obtain ⟨rfl, rfl⟩ := H
  go_enter Try.func16, Try.ntmps16
  go_wp2_with (first | ((with_reducible refine gate_dst (N := 1) rfl ?_); refine boxK HB (N := 1) (cs := #[.slice A0_0 l0_0.length c0_0]) (t := 26) (h := ?_); clear HB; intro gb1 hg w28 BK1 GW1 GE1 HB hb; clear hb hg; obtain ⟨hcz29_0, hfz29_0⟩ := kc1 BK1) | ((with_reducible refine gate_callee (f := 11) rfl ?_); refine goK (some 8) Try.func11 #[.agg #[.slice A0_0 l0_0.length c0_0]] ?_; (with_reducible refine (impl_IsPuzzle.calls k _ _ l0_0 false _ ?side1 ?side2 A2.out).mono ?_); (case side1 => exact cb HR0_0 HB); (case side2 => exact HC0_0.out); rintro e w30 ⟨rfl, hb⟩; refine ⟨_, rfl, ?_⟩; replace BK1 := kb BK1 hb; replace HB := kw HB hb; (try clear hb)))
  go_ret2
  exact ⟨_, eqR, by first | exact Kd.R_nil _ _ _ _ _ | exact Kd.N_nil _ _ _ _ _ | exact Kd.V_nil _ _ _ _ _ | exact Kd.Q_nil _ _ _ _ _ | exact Kd.S_nil _ _ _ _ _, bw HB⟩
 replace H := bindS H; obtain ⟨t298, A4, H⟩ := H
 have H' := Aside0.mk H
 clear H
 go_enter Try.func16, Try.ntmps16
 go_wp2_with (first | ((with_reducible refine gate_dst (N := 1) rfl ?_); refine boxK HB (N := 1) (cs := #[.slice A0_0 l0_0.length c0_0]) (t := 26) (h := ?_); clear HB; intro gb1 hg w5 BK1 GW1 GE1 HB hb; clear hb hg; obtain ⟨hcz6_0, hfz6_0⟩ := kc1 BK1) | ((with_reducible refine gate_callee (f := 11) rfl ?_); refine goK (some 8) Try.func11 #[.agg #[.slice A0_0 l0_0.length c0_0]] ?_; (with_reducible refine (impl_IsPuzzle.calls k _ _ l0_0 true _ ?side1 ?side2 A2.out).mono ?_); (case side1 => exact cb HR0_0 HB); (case side2 => exact HC0_0.out); rintro e w7 ⟨rfl, hb⟩; refine ⟨_, rfl, ?_⟩; replace BK1 := kb BK1 hb; replace HB := kw HB hb; (try clear hb); obtain ⟨hcz8_0, hfz8_0⟩ := kc1 BK1) | ((with_reducible refine gate_callee (f := 46) rfl ?_); refine goK (some 12) Try.func46 #[.slice A0_0 l0_0.length c0_0] ?_; (with_reducible refine (impl_solutions.calls k _ _ l0_0 t298 _ ?side1 ?side2 A4.out).mono ?_); (case side1 => exact cb HR0_0 HB); (case side2 => exact HC0_0.out); rintro e w9 ⟨v299, rfl, ho0, hb⟩; refine ⟨_, rfl, ?_⟩; have HO300 := Aside0.mk (Kd.R_lower ho0 (below_size (bw HB))); replace BK1 := kb BK1 hb; replace HB := kw HB hb; (try clear hb); (try clear ho0); obtain ⟨Ao10, co10, eo10⟩ := Kd.R_slice HO300.out; subst eo10; obtain ⟨hcz11_0, hfz11_0⟩ := kc1 BK1))
 go_loopg [5, 17] k (fun kq v5 v17 w' => ∃ (x5_1 : List Int) (x17_1 : Int), v17 = .int .i64 x17_1 ∧ Aside0 (impl_NeedlessClues.l0 kq (t298.length : Int) x5_1 (l0_0.length : Int) x17_1 l0_0 = some (r1, r2)) ∧ Aside0 (kq ≤ k) ∧ Aside0 (Kd.R (Kd.int .i64) 3 w' w.heap.size (fun _ => True) v5 x5_1) ∧ Aside0 (w'.heap[gb1]? = some (.cells #[(.slice A0_0 l0_0.length c0_0)] 26 (0, 0))) ∧ Aside0 (Below w.heap.size w w'))
 case atStart => exact ⟨(([] : List Int)), (0), (by first | rfl | (simp; done) | (simp [*]; done)), H', ⟨Nat.le_refl _⟩, ⟨by first | exact Kd.R_nil _ _ _ _ _ | exact Kd.N_nil _ _ _ _ _ | exact Kd.V_nil _ _ _ _ _ | exact Kd.Q_nil _ _ _ _ _ | exact Kd.S_nil _ _ _ _ _⟩, ⟨bk BK1⟩, ⟨bw HB⟩⟩
 case round =>
  clear H'
  try clear hcz11_0
  try clear hcz6_0
  try clear hcz8_0
  try clear hfz11_0
  try clear hfz6_0
  try clear hfz8_0
  obtain ⟨x5_1, x17_1, rfl, HA, HK1, HO_5, BK1, HB⟩ := hrel
  cases gk with
  | zero => exact absurd HA.out (by simp [impl_NeedlessClues.l0])
  | succ k1 =>
   have H := HA.out
   clear HA
   simp only [impl_NeedlessClues.l0] at H
   replace H := iteC H; rcases H with ⟨c12, H⟩ | ⟨c12, H⟩
   rotate_left
   ·
    have c12b0 : decide (x17_1 < (l0_0.length : Int)) = false := decide_eq_false c12
    clear c12
    simp only [Option.some.injEq, Prod.mk.injEq] at H
    obtain ⟨rfl, rfl⟩ := H
    go_wp2
    go_ret2
    exact ⟨_, eqR, ro HO_5, bw HB⟩
   have c12b0 : decide (x17_1 < (l0_0.length : Int)) = true := decide_eq_true c12
   clear c12
   replace H := bindS H; obtain ⟨t301, A13, H⟩ := H
   replace H := bindS H; obtain ⟨t304, A14, H⟩ := H
   replace H := iteC H; rcases H with ⟨c15, H⟩ | ⟨c15, H⟩
   rotate_left
   ·
    have c15b0 : ((t304.length : Int) == (t298.length : Int)) = false := beq_eq_false_iff_ne.mpr c15
    have c15b1 : ((t304.length : Int) != (t298.length : Int)) = true := bne_iff_ne.mpr c15
    have c15b2 : (t304.length == t298.length) = false := by first | simpa using c15 | (simp at c15 ⊢; omega)
    have H' := Aside0.mk H
    clear H
    obtain ⟨hcz23_0, hfz23_0⟩ := kc1 BK1
    go_wp2_with (first | ((with_reducible refine gate_callee (f := 48) rfl ?_); refine goK (some 23) Try.func48 #[.slice A0_0 l0_0.length c0_0, .int .i64 x17_1] ?_; (with_reducible refine (impl_withoutClue.calls _ _ l0_0 x17_1 t301 _ ?side1 ?side2 A13.out).mono ?_); (case side1 => exact cb HR0_0 HB); (case side2 => exact HC0_0.out); rintro e w24 ⟨v302, rfl, ho0, hb⟩; refine ⟨_, rfl, ?_⟩; replace HO_5 := ko HO_5 hb; have HO303 := Aside0.mk (Kd.R_lower ho0 (below_size (bw HB))); replace BK1 := kb BK1 hb; replace HB := kw HB hb; (try clear hb); (try clear ho0); obtain ⟨Ao25, co25, eo25⟩ := Kd.R_slice HO303.out; subst eo25) | ((with_reducible refine gate_callee (f := 46) rfl ?_); refine goK (some 24) Try.func46 #[.slice Ao25 t301.length co25] ?_; (with_reducible refine (impl_solutions.calls k1 _ _ t301 t304 _ ?side1 ?side2 A14.out).mono ?_); (case side1 => exact rs HO303); (case side2 => exact rl HO303); rintro e w26 ⟨v305, rfl, ho0, hb⟩; refine ⟨_, rfl, ?_⟩; replace HO_5 := ko HO_5 hb; replace HO303 := ko HO303 hb; have HO306 := Aside0.mk (Kd.R_lower ho0 (below_size (bw HB))); replace BK1 := kb BK1 hb; replace HB := kw HB hb; (try clear hb); (try clear ho0); obtain ⟨Ao27, co27, eo27⟩ := Kd.R_slice HO306.out; subst eo27))
    go_roundg k1
    case measure => have := HK1.out; omega
    case rel => exact ⟨(x5_1), (wrap64 (x17_1 + 1)), (by first | rfl | (simp; done) | (simp [*]; done)), H', ⟨by have := HK1.out; omega⟩, ⟨ro HO_5⟩, ⟨bk BK1⟩, ⟨bw HB⟩⟩
   have c15b0 : ((t304.length : Int) == (t298.length : Int)) = true := beq_iff_eq.mpr c15
   have c15b1 : ((t304.length : Int) != (t298.length : Int)) = false := bne_eq_false_iff_eq.mpr c15
   have c15b2 : (t304.length == t298.length) = true := by first | simpa using c15 | (simp at c15 ⊢; omega)
   clear c15
   replace H := iteS H; obtain ⟨c16, H⟩ := H
   have LMc16 := Aside0.mk c16
   clear c16
   obtain ⟨y307, hy307⟩ : ∃ y_ : List Int, y_ = (x5_1 ++ [x17_1]) := ⟨_, rfl⟩
   replace H : (impl_NeedlessClues.l0 k1 (t298.length : Int) y307 (l0_0.length : Int) (wrap64 (x17_1 + 1)) l0_0) = some (r1, r2) := by first | (rw [hy307]; with_reducible exact H) | (have H2_ := (Option.bind_some _ _).symm.trans H; first | (rw [hy307]; with_reducible exact H2_) | with_reducible exact H2_) | with_reducible exact H | (rw [hy307]; exact H) | exact H
   have Ny307 := Aside0.mk hy307
   clear hy307
   have H' := Aside0.mk H
   clear H
   obtain ⟨hcz17_0, hfz17_0⟩ := kc1 BK1
   go_wp2_with (first | ((with_reducible refine gate_callee (f := 48) rfl ?_); refine goK (some 23) Try.func48 #[.slice A0_0 l0_0.length c0_0, .int .i64 x17_1] ?_; (with_reducible refine (impl_withoutClue.calls _ _ l0_0 x17_1 t301 _ ?side1 ?side2 A13.out).mono ?_); (case side1 => exact cb HR0_0 HB); (case side2 => exact HC0_0.out); rintro e w18 ⟨v302, rfl, ho0, hb⟩; refine ⟨_, rfl, ?_⟩; replace HO_5 := ko HO_5 hb; have HO303 := Aside0.mk (Kd.R_lower ho0 (below_size (bw HB))); replace BK1 := kb BK1 hb; replace HB := kw HB hb; (try clear hb); (try clear hk); (try clear ho0); obtain ⟨Ao19, co19, eo19⟩ := Kd.R_slice HO303.out; subst eo19) | ((with_reducible refine gate_callee (f := 46) rfl ?_); refine goK (some 24) Try.func46 #[.slice Ao19 t301.length co19] ?_; (with_reducible refine (impl_solutions.calls k1 _ _ t301 t304 _ ?side1 ?side2 A14.out).mono ?_); (case side1 => exact rs HO303); (case side2 => exact rl HO303); rintro e w20 ⟨v305, rfl, ho0, hb⟩; refine ⟨_, rfl, ?_⟩; replace HO_5 := ko HO_5 hb; replace HO303 := ko HO303 hb; have HO306 := Aside0.mk (Kd.R_lower ho0 (below_size (bw HB))); replace BK1 := kb BK1 hb; replace HB := kw HB hb; (try clear hb); (try clear hk); (try clear ho0); obtain ⟨Ao21, co21, eo21⟩ := Kd.R_slice HO306.out; subst eo21) | ((with_reducible refine gate_builtin (b := .append) (xs := #[.tmp 28, .tmp 30]) rfl ?_); at_builtin; refine Kd.R_append (Kd.int .i64) (w0 := w) w.heap.size rfl (.tmp 28) (.tmp 30) 43 3 (.int .i64 0) 8 rfl Try.underlying43 info3 rfl (by decide) (by omega) u5 x5_1 x17_1 [.int .i64 x17_1] (fun _ => True) (fun _ => False) rfl rfl ?aP (fun _ hk => hk.elim) ?aF ?aO ?aB ?aS ?aL ?_; (case aP => exact rfl); (case aB => exact (bw HB)); (case aF => exact (fun _ _ => trivial)); (case aO => exact (ro HO_5)); (case aS => exact (below_size (bw HB))); (case aL => have := LMc16.out; omega); intro v308 w22 ho hb hg hat; rw [← Ny307.out] at ho; replace BK1 := Aside0.mk (blk_grown (bk BK1) hg (Kd.R_ne HO_5.out BK1.out (by decide))); replace HO303 := Aside0.mk (Kd.R_over' (ro HO303) (Kd.R_typed (ro HO_5)) (by decide) hg); replace HO306 := Aside0.mk (Kd.R_over' (ro HO306) (Kd.R_typed (ro HO_5)) (by decide) hg); replace HB := Aside0.mk (hb); have HO309 := Aside0.mk (ho); clear HO_5; clear ho hb hg hat))
   go_roundg k1
   case measure => have := HK1.out; omega
   case rel => exact ⟨(y307), (wrap64 (x17_1 + 1)), (by first | rfl | (simp; done) | (simp [*]; done)), H', ⟨by have := HK1.out; omega⟩, ⟨ro HO309⟩, ⟨bk BK1⟩, ⟨bw HB⟩⟩

/-! ### laws_qSnails: function 17 -/
def laws_qSnails.l0 : Nat → List (S23) → List (S23) → Int → Int → Option (Bool)
  | 0, _, _, _, _ => none
  | k + 1, x0, x1, x12, x13 => if x13 < x12 then (if 0 ≤ x13 then (if x13 < (x0.length : Int) then (if x13 < (x1.length : Int) then (if (!(((rd_T23 x0 x13).f0) == ((rd_T23 x1 x13).f0)) || (!(((rd_T23 x0 x13).f1) == ((rd_T23 x1 x13).f1)))) = true then (some false) else (laws_qSnails.l0 k x0 x1 x12 (wrap64 (x13 + 1)))) else (none)) else (none)) else (none)) else (some true)
def laws_qSnails.f (k : Nat) (l0 : List (S23)) (l1 : List (S23)) : Option (Bool) := if (l0.length : Int) = (l1.length : Int) then (laws_qSnails.l0 k l0 l1 (l0.length : Int) 0) else (some false)
set_option maxHeartbeats 8000000 in
set_option maxRecDepth 100000 in
theorem laws_qSnails.calls (k : Nat) (A0 : Option Addr) (c0 : Nat) (l0 : List (S23)) (A1 : Option Addr) (c1 : Nat) (l1 : List (S23)) (r : Bool) (w : World) (hr0 : Kd.C k23 w A0 l0.length l0) (hc0 : l0.length ≤ c0) (hr1 : Kd.C k23 w A1 l1.length l1) (hc1 : l1.length ≤ c1) (h : laws_qSnails.f k l0 l1 = some r) :
    Calls Try.prog 17 #[.slice A0 l0.length c0, .slice A1 l1.length c1] w fun e w' => e = .returned (.bool r) ∧ Drawn0 w w' := by
 have hu23 := Try.underlying23
 have HR0 := Aside0.mk hr0
 have HC0 := Aside0.mk hc0
 clear hr0 hc0
 have HR1 := Aside0.mk hr1
 have HC1 := Aside0.mk hc1
 clear hr1 hc1
 have H : (if (l0.length : Int) = (l1.length : Int) then (laws_qSnails.l0 k l0 l1 (l0.length : Int) 0) else (some false)) = some r := h
 clear h
 replace H := iteC H; rcases H with ⟨c3, H⟩ | ⟨c3, H⟩
 rotate_left
 ·
  have c3b0 : ((l0.length : Int) == (l1.length : Int)) = false := beq_eq_false_iff_ne.mpr c3
  have c3b1 : ((l0.length : Int) != (l1.length : Int)) = true := bne_iff_ne.mpr c3
  have c3b2 : (l0.length == l1.length) = false := by first | simpa using c3 | (simp at c3 ⊢; omega)
  obtain rfl := Option.some.inj H
  go_enter Try.func17, Try.ntmps17
  go_wp2
  repeat (go_quiet (fail); try go_wp2)
  go_ret
  exact ⟨by first | rfl | (simp; done) | (simp [*]; done), by repeat (first | exact Drawn0.refl _ | apply Drawn0.step)⟩
 have c3b0 : ((l0.length : Int) == (l1.length : Int)) = true := beq_iff_eq.mpr c3
 have c3b1 : ((l0.length : Int) != (l1.length : Int)) = false := bne_eq_false_iff_eq.mpr c3
 have c3b2 : (l0.length == l1.length) = true := by first | simpa using c3 | (simp at c3 ⊢; omega)
 clear c3
 have H' := Aside0.mk H
 clear H
 go_enter Try.func17, Try.ntmps17
 go_wp2
 repeat (go_quiet (fail); try go_wp2)
 go_loopg [13] k (fun kq v13 w' => ∃ (x13_1 : Int), v13 = .int .i64 x13_1 ∧ Aside0 (laws_qSnails.l0 kq l0 l1 (l0.length : Int) x13_1 = some r) ∧ Aside0 (kq ≤ k) ∧ Drawn0 w w')
 case atStart => exact ⟨(0), (by first | rfl | (simp; done) | (simp [*]; done)), H', ⟨Nat.le_refl _⟩, by repeat (first | exact Drawn0.refl _ | apply Drawn0.step)⟩
 case round =>
  clear H'
  try clear c1
  try clear c3
  try clear c3b0
  try clear c3b1
  try clear c3b2
  obtain ⟨x13_1, rfl, HA, HK1, ⟨m1, rfl⟩⟩ := hrel
  cases gk with
  | zero => exact absurd HA.out (by simp [laws_qSnails.l0])
  | succ k1 =>
   have H := HA.out
   clear HA
   simp only [laws_qSnails.l0] at H
   replace H := iteC H; rcases H with ⟨c4, H⟩ | ⟨c4, H⟩
   rotate_left
   ·
    have c4b0 : decide (x13_1 < (l0.length : Int)) = false := decide_eq_false c4
    clear c4
    obtain rfl := Option.some.inj H
    go_wp2
    repeat (go_quiet (fail); try go_wp2)
    go_ret
    exact ⟨by first | rfl | (simp; done) | (simp [*]; done), by repeat (first | exact Drawn0.refl _ | apply Drawn0.step)⟩
   have c4b0 : decide (x13_1 < (l0.length : Int)) = true := decide_eq_true c4
   clear c4
   replace H := iteS H; obtain ⟨c5, H⟩ := H
   have c5b0 : decide (0 ≤ x13_1) = true := decide_eq_true c5
   clear c5
   replace H := iteS H; obtain ⟨c6, H⟩ := H
   have c6b0 : decide (x13_1 < (l0.length : Int)) = true := decide_eq_true c6
   clear c6
   replace H := iteS H; obtain ⟨c7, H⟩ := H
   have c7b0 : decide (x13_1 < (l1.length : Int)) = true := decide_eq_true c7
   clear c7
   replace H := iteC H; rcases H with ⟨c8, H⟩ | ⟨c8, H⟩
   ·
    have c8b0 : (!(((rd_T23 l0 x13_1).f0) == ((rd_T23 l1 x13_1).f0)) || (!(((rd_T23 l0 x13_1).f1) == ((rd_T23 l1 x13_1).f1)))) = true := c8
    clear c8
    obtain rfl := Option.some.inj H
    have p310 : 0 ≤ (x13_1 : Int) := of_decide_eq_true (by first | (with_reducible assumption) | assumption)
    have q310 : x13_1 < (l0.length : Int) := of_decide_eq_true (by first | (with_reducible assumption) | assumption)
    obtain ⟨ad310, e310, hx310_0, hx310_1⟩ := at_T23 HR0.out x13_1 p310 q310
    cases e310
    replace p310 := eq_true p310
    replace q310 := eq_true q310
    have p311 : 0 ≤ (x13_1 : Int) := of_decide_eq_true (by first | (with_reducible assumption) | assumption)
    have q311 : x13_1 < (l1.length : Int) := of_decide_eq_true (by first | (with_reducible assumption) | assumption)
    obtain ⟨ad311, e311, hx311_0, hx311_1⟩ := at_T23 HR1.out x13_1 p311 q311
    cases e311
    replace p311 := eq_true p311
    replace q311 := eq_true q311
    go_wp2
    repeat (go_quiet (fail); try go_wp2)
    go_ret
    exact ⟨by first | rfl | (simp; done) | (simp [*]; done), by repeat (first | exact Drawn0.refl _ | apply Drawn0.step)⟩
   have c8b0 : (!(((rd_T23 l0 x13_1).f0) == ((rd_T23 l1 x13_1).f0)) || (!(((rd_T23 l0 x13_1).f1) == ((rd_T23 l1 x13_1).f1)))) = false := by simpa using c8
   clear c8
   have H' := Aside0.mk H
   clear H
   have p310 : 0 ≤ (x13_1 : Int) := of_decide_eq_true (by first | (with_reducible assumption) | assumption)
   have q310 : x13_1 < (l0.length : Int) := of_decide_eq_true (by first | (with_reducible assumption) | assumption)
   obtain ⟨ad310, e310, hx310_0, hx310_1⟩ := at_T23 HR0.out x13_1 p310 q310
   cases e310
   replace p310 := eq_true p310
   replace q310 := eq_true q310
   have p311 : 0 ≤ (x13_1 : Int) := of_decide_eq_true (by first | (with_reducible assumption) | assumption)
   have q311 : x13_1 < (l1.length : Int) := of_decide_eq_true (by first | (with_reducible assumption) | assumption)
   obtain ⟨ad311, e311, hx311_0, hx311_1⟩ := at_T23 HR1.out x13_1 p311 q311
   cases e311
   replace p311 := eq_true p311
   replace q311 := eq_true q311
   go_wp2
   repeat (go_quiet (fail); try go_wp2)
   go_roundg k1
   case measure => have := HK1.out; omega
   case rel => exact ⟨(wrap64 (x13_1 + 1)), (by first | rfl | (simp; done) | (simp [*]; done)), H', ⟨by have := HK1.out; omega⟩, by repeat (first | exact Drawn0.refl _ | apply Drawn0.step)⟩

end Go.Proofs.Ytlpjooijkeadbaa.PH
