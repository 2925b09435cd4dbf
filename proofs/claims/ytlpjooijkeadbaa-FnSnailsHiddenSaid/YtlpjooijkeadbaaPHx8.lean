-- Written by a program of our own (wip/tools/xprint.py) for this claim; Lean checks it.
import Derived.Test.YtlpjooijkeadbaaPHx0
import Derived.Test.YtlpjooijkeadbaaPHx5
namespace Go.Proofs.Ytlpjooijkeadbaa.PH
open Go.RowKit Go.Proofs.YtlpjooijkeadbaaK Go.Proofs.YtlpjooijkeadbaaW.PrintWords Go.Proofs.YtlpjooijkeadbaaW.PrintLast Go.Proofs.YtlpjooijkeadbaaW.PrintMore
attribute [local go_sem] max2_int min2_int max_two min_two max_three min_three max_four min_four   -- for this text's walks alone
set_option linter.unusedVariables false
set_option linter.unusedSimpArgs false

/-! ### impl_AddClue: function 18 -/
def impl_AddClue.f (k : Nat) (l0_0 : List (S28)) (a1_0 : Int) (a1_1 : Int) (a1_2 : Int) : Option ((List (S28)) × Bool) := (impl_Clue_47.f l0_0).bind fun t315 => ((some (([(⟨a1_0, a1_1, a1_2⟩ : S28)] : List (S28)) : List (S28))).bind fun y318 => (if t315.length + y318.length < 5864062014805 then ((some (t315 ++ y318 : List (S28))).bind fun y321 => ((impl_IsPuzzle.f k y321).bind fun t325 => (if t325 = true then (some (y321, true)) else (some (([] : List (S28)), false))))) else (none)))
def impl_AddClue.T1 : Bool × List (List Nat × List Nat) := (true, [([], []), ([0], [0]), ([1], [1]), ([], []), ([3], [3]), ([2, 4, 2], [2, 4]), ([5], [5]), ([], []), ([7, 6, 5, 0, 1, 2, 3, 4, 5, 6, 7], [6, 7])])
def impl_AddClue.B1 : List Nat := [0, 1, 3, 0, 8, 31, 63, 0, 255]
theorem impl_AddClue.tab1 : rtab .any (opsOf Try.f18 1) = impl_AddClue.T1 := by kernel_rfl
theorem impl_AddClue.bits1 : waitsOk impl_AddClue.T1.2 impl_AddClue.B1 = true := by kernel_rfl
set_option maxHeartbeats 8000000 in
set_option maxRecDepth 100000 in
theorem impl_AddClue.calls (k : Nat) (A0_0 : Option Addr) (c0_0 : Nat) (l0_0 : List (S28)) (a1_0 : Int) (a1_1 : Int) (a1_2 : Int) (r1 : List (S28)) (r2 : Bool) (w : World) (hr0_0 : Kd.C k28 w A0_0 l0_0.length l0_0) (hc0_0 : l0_0.length ≤ c0_0) (h : impl_AddClue.f k l0_0 a1_0 a1_1 a1_2 = some (r1, r2)) :
    Calls Try.prog 18 #[.agg #[.slice A0_0 l0_0.length c0_0], .agg #[.int .i64 a1_0, .int .i64 a1_1, .int .i64 a1_2]] w fun e w' => ∃ v0_ : Value, e = .returned (.tuple #[.agg #[v0_], .bool r2]) ∧ Kd.R k28 28 w' w.heap.size (fun _ => True) v0_ r1 ∧ Below w.heap.size w w' := by
 have hu26 := Try.underlying26
 have hu28 := Try.underlying28
 have HR0_0 := Aside0.mk hr0_0
 have HC0_0 := Aside0.mk hc0_0
 clear hr0_0 hc0_0
 have HB := Aside0.mk (Below.refl w.heap.size w)
 have H : ((impl_Clue_47.f l0_0).bind fun t315 => ((some (([(⟨a1_0, a1_1, a1_2⟩ : S28)] : List (S28)) : List (S28))).bind fun y318 => (if t315.length + y318.length < 5864062014805 then ((some (t315 ++ y318 : List (S28))).bind fun y321 => ((impl_IsPuzzle.f k y321).bind fun t325 => (if t325 = true then (some (y321, true)) else (some (([] : List (S28)), false))))) else (none)))) = some (r1, r2) := h
 clear h
 replace H := bindS H; obtain ⟨t315, A3, H⟩ := H
 obtain ⟨y318, hy318⟩ : ∃ y_ : List (S28), y_ = (([(⟨a1_0, a1_1, a1_2⟩ : S28)] : List (S28))) := ⟨_, rfl⟩
 replace H : (if t315.length + y318.length < 5864062014805 then ((some (t315 ++ y318 : List (S28))).bind fun y321 => ((impl_IsPuzzle.f k y321).bind fun t325 => (if t325 = true then (some (y321, true)) else (some (([] : List (S28)), false))))) else (none)) = some (r1, r2) := by first | (rw [hy318]; with_reducible exact H) | (have H2_ := (Option.bind_some _ _).symm.trans H; first | (rw [hy318]; with_reducible exact H2_) | with_reducible exact H2_) | with_reducible exact H | (rw [hy318]; exact H) | exact H
 have Ny318 := Aside0.mk hy318
 clear hy318
 replace H := iteS H; obtain ⟨c4, H⟩ := H
 have LMc4 := Aside0.mk c4
 clear c4
 obtain ⟨y321, hy321⟩ : ∃ y_ : List (S28), y_ = (t315 ++ y318) := ⟨_, rfl⟩
 replace H : ((impl_IsPuzzle.f k y321).bind fun t325 => (if t325 = true then (some (y321, true)) else (some (([] : List (S28)), false)))) = some (r1, r2) := by first | (rw [hy321]; with_reducible exact H) | (have H2_ := (Option.bind_some _ _).symm.trans H; first | (rw [hy321]; with_reducible exact H2_) | with_reducible exact H2_) | with_reducible exact H | (rw [hy321]; exact H) | exact H
 have Ny321 := Aside0.mk hy321
 clear hy321
 replace H := bindS H; obtain ⟨t325, A5, H⟩ := H
 replace H := iteB H; rcases H with ⟨rfl, H⟩ | ⟨rfl, H⟩
 ·
  simp only [Option.some.injEq, Prod.mk.injEq] at H
  obtain ⟨rfl, rfl⟩ := H
  go_enter Try.func18, Try.ntmps18
  try go_wp2_with (first | ((with_reducible refine gate_dst (N := 2) rfl ?_); refine boxK HB (N := 2) (cs := #[.slice A0_0 l0_0.length c0_0]) (t := 26) (h := ?_); clear HB; intro gb1 hg w7 BK1 GW1 GE1 HB hb; clear hb hg) | ((with_reducible refine gate_dst (N := 3) rfl ?_); refine boxK HB (N := 3) (cs := #[.int .i64 a1_0, .int .i64 a1_1, .int .i64 a1_2]) (t := 28) (h := ?_); clear HB; intro gb2 hg w8 BK2 GW2 GE2 HB hb; obtain ⟨NB1_2, NB2_1⟩ := nv1 hg BK1; replace BK1 := kb BK1 hb; clear hb hg) | ((with_reducible refine gate_dst (N := 4) rfl ?_); refine boxK HB (N := 4) (cs := #[.slice none 0 0]) (t := 26) (h := ?_); clear HB; intro gb3 hg w9 BK3 GW3 GE3 HB hb; obtain ⟨NB1_3, NB3_1, NB2_3, NB3_2⟩ := nv2 hg BK1 BK2; refine mv2 hb BK1 BK2 ?_; clear BK1 BK2; intro BK1 BK2; clear hb hg))
  refine md3 BK1 BK2 BK3 ?_
  clear BK1 BK2 BK3
  intro BK1 BK2 BK3
  replace HB := Aside0.mk (below_drew1 HB.out)
  refine startK 9 (S := fun w' => w'.cell? ⟨gb1, 0, none⟩ = some (.slice A0_0 l0_0.length c0_0) ∧ w'.cell? ⟨gb2, 0, none⟩ = some (.int .i64 a1_0) ∧ w'.cell? ⟨gb2, 1, none⟩ = some (.int .i64 a1_1) ∧ w'.cell? ⟨gb2, 2, none⟩ = some (.int .i64 a1_2)) (ds := []) impl_AddClue.tab1 impl_AddClue.bits1 (hS := ⟨bc BK1 0, bc BK2 0, bc BK2 1, bc BK2 2⟩) (h := fun hHeld HT_ HW_ => ?_)
  generalize w9.drew = w10 at BK1 BK2 BK3 HB hHeld ⊢
  refine pureK HT_ 0 (some 7) ?_
  refine takeK HT_ HW_ hHeld 1 (some 8) ?_
  refine takeK HT_ HW_ hHeld 3 (some 10) ?_
  refine join_ (σ := Value × Value × Value × Nat) 1 #[true, true, true, true, true, true, true, true, false] (fun s_ => [(9, s_.1), (11, s_.2.1), (12, s_.2.2.1), (6, .pointer (some ⟨s_.2.2.2, 0, none⟩)), (13, .agg #[s_.2.2.1])]) (fun s_ w' => (w'.cell? ⟨gb1, 0, none⟩ = some (.slice A0_0 l0_0.length c0_0) ∧ w'.cell? ⟨gb2, 0, none⟩ = some (.int .i64 a1_0) ∧ w'.cell? ⟨gb2, 1, none⟩ = some (.int .i64 a1_1) ∧ w'.cell? ⟨gb2, 2, none⟩ = some (.int .i64 a1_2)) ∧ (Kd.R k28 28 w' w.heap.size (fun k_ => some k_ ≠ (s_.2.2.1 : Value).ownBlock ∧ k_ ≠ gb2) s_.2.1 y318) ∧ (Kd.R k28 28 w' w.heap.size (fun k_ => some k_ ≠ (s_.2.1 : Value).ownBlock ∧ k_ ≠ gb2) s_.2.2.1 y321) ∧ (w'.heap[gb1]? = some (.cells #[.slice A0_0 l0_0.length c0_0] 26 (0, 0))) ∧ (w'.heap[gb2]? = some (.cells #[.int .i64 a1_0, .int .i64 a1_1, .int .i64 a1_2] 28 (0, 0))) ∧ (w'.heap[gb3]? = some (.cells #[.slice none 0 0] 26 (0, 0))) ∧ (w'.heap[s_.2.2.2]? = some (.cells #[.slice none 0 0] 26 (0, 0))) ∧ (w.heap.size ≤ s_.2.2.2) ∧ (w.heap.size ≤ s_.2.2.2) ∧ (gb1 ≠ s_.2.2.2) ∧ (s_.2.2.2 ≠ gb1) ∧ (gb2 ≠ s_.2.2.2) ∧ (s_.2.2.2 ≠ gb2) ∧ (gb3 ≠ s_.2.2.2) ∧ (s_.2.2.2 ≠ gb3) ∧ (Below w.heap.size w w')) ?_ ?_
  rotate_left
  ·
   intro hJ2_4_5_7
   refine join_ (σ := Value × Value × Value) 2 #[true, true, true, true, true, true, true, false, false] (fun s_ => [(9, s_.1), (11, s_.2.1), (12, s_.2.2), (13, .agg #[s_.2.2])]) (fun s_ w' => (w'.cell? ⟨gb1, 0, none⟩ = some (.slice A0_0 l0_0.length c0_0) ∧ w'.cell? ⟨gb2, 0, none⟩ = some (.int .i64 a1_0) ∧ w'.cell? ⟨gb2, 1, none⟩ = some (.int .i64 a1_1) ∧ w'.cell? ⟨gb2, 2, none⟩ = some (.int .i64 a1_2)) ∧ (Kd.R k28 28 w' w.heap.size (fun k_ => some k_ ≠ (s_.2.2 : Value).ownBlock ∧ k_ ≠ gb2) s_.2.1 y318) ∧ (Kd.R k28 28 w' w.heap.size (fun k_ => some k_ ≠ (s_.2.1 : Value).ownBlock ∧ k_ ≠ gb2) s_.2.2 y321) ∧ (w'.heap[gb1]? = some (.cells #[.slice A0_0 l0_0.length c0_0] 26 (0, 0))) ∧ (w'.heap[gb2]? = some (.cells #[.int .i64 a1_0, .int .i64 a1_1, .int .i64 a1_2] 28 (0, 0))) ∧ (w'.heap[gb3]? = some (.cells #[.slice none 0 0] 26 (0, 0))) ∧ (Below w.heap.size w w')) ?_ ?_
   rotate_left
   rotate_left
   ·
    skip
    rintro ⟨v316, v319, v322⟩ w17 ⟨hS_, h0_, h1_, h2_, h3_, h4_, h5_⟩
    have n0_ : Aside0 (Kd.R k28 28 w17 w.heap.size (fun k_ => some k_ ≠ (v322 : Value).ownBlock ∧ k_ ≠ gb2) v319 y318) := ⟨h0_⟩
    have n1_ : Aside0 (Kd.R k28 28 w17 w.heap.size (fun k_ => some k_ ≠ (v319 : Value).ownBlock ∧ k_ ≠ gb2) v322 y321) := ⟨h1_⟩
    have n2_ : Aside0 (w17.heap[gb1]? = some (.cells #[.slice A0_0 l0_0.length c0_0] 26 (0, 0))) := ⟨h2_⟩
    have n3_ : Aside0 (w17.heap[gb2]? = some (.cells #[.int .i64 a1_0, .int .i64 a1_1, .int .i64 a1_2] 28 (0, 0))) := ⟨h3_⟩
    have n4_ : Aside0 (w17.heap[gb3]? = some (.cells #[.slice none 0 0] 26 (0, 0))) := ⟨h4_⟩
    have n5_ : Aside0 (Below w.heap.size w w17) := ⟨h5_⟩
    clear BK1
    clear BK2
    clear BK3
    clear HB
    clear h0_ h1_ h2_ h3_ h4_ h5_
    have HO320 := n0_
    have HO323 := n1_
    have BK1 := n2_
    have BK2 := n3_
    have BK3 := n4_
    have HB := n5_
    clear n0_ n1_ n2_ n3_ n4_ n5_
    have hHeld : w17.cell? ⟨gb1, 0, none⟩ = some (.slice A0_0 l0_0.length c0_0) ∧ w17.cell? ⟨gb2, 0, none⟩ = some (.int .i64 a1_0) ∧ w17.cell? ⟨gb2, 1, none⟩ = some (.int .i64 a1_1) ∧ w17.cell? ⟨gb2, 2, none⟩ = some (.int .i64 a1_2) := hS_
    obtain ⟨Ao18, co18, eo18⟩ := Kd.R_slice HO323.out
    (first | subst eo18 | (injection eo18 with f1_ f2_ f3_; have f4_ := f1_.symm; have f5_ := f3_.symm; clear f1_ f2_ f3_; subst f4_; subst f5_))
    refine norm_ (a' := ?_) ?_ ?_
    rotate_left
    ·
     simp only [putAll, Act.put, List.setIfInBounds_toArray, List.set_cons_zero, List.set_cons_succ]
     rfl
    refine oneK HT_ 7 (some 6) (fun K hK => ?_)
    refine box_step ?hg (N := 6) ?hd (cs := #[.slice none 0 0]) (t := 26) ?hr ?_; (case hd => rfl); (case hg => rfl); (case hr => first | (go_simp; done) | (go_simp; rfl))
    intro gb4 hg w19 hbox hb
    replace HO320 := ko HO320 hb
    replace HO323 := ko HO323 hb
    have BK4 := Aside0.mk (hbox)
    have GW4 := gw HB hg
    have GE4 := gw HB hg
    replace HB := kw HB hb
    obtain ⟨NB1_4, NB4_1, NB2_4, NB4_2, NB3_4, NB4_3⟩ := nv3 hg BK1 BK2 BK3
    refine mv3 hb BK1 BK2 BK3 ?_
    clear BK1 BK2 BK3
    intro BK1 BK2 BK3
    clear hb hbox hg
    refine hK.out _ _ ⟨bc BK1 0, bc BK2 0, bc BK2 1, bc BK2 2⟩ (fun hHeld => ?_)
    clear hK K
    refine normK (N := some 6) (h := ?_)
    exact norm_ (by first | (simp only [putAll, Act.put, List.setIfInBounds_toArray, List.set_cons_zero, List.set_cons_succ]; done) | (simp only [putAll, Act.put, List.setIfInBounds_toArray, List.set_cons_zero, List.set_cons_succ]; rfl)) (hJ2_4_5_7 (v316, v319, .slice Ao18 y321.length co18, gb4) _ ⟨hHeld, (ro HO320), (ro HO323), (bk BK1), (bk BK2), (bk BK3), (bk BK4), GW4.out, GE4.out, NB1_4.out, NB4_1.out, NB2_4.out, NB4_2.out, NB3_4.out, NB4_3.out, (bw HB)⟩)
   intro hJ2_4_5
   refine join_ (σ := Value × Value × Nat) 3 #[true, true, true, true, true, false, false, true, false] (fun s_ => [(9, s_.1), (11, s_.2.1), (6, .pointer (some ⟨s_.2.2, 0, none⟩))]) (fun s_ w' => (w'.cell? ⟨gb1, 0, none⟩ = some (.slice A0_0 l0_0.length c0_0) ∧ w'.cell? ⟨gb2, 0, none⟩ = some (.int .i64 a1_0) ∧ w'.cell? ⟨gb2, 1, none⟩ = some (.int .i64 a1_1) ∧ w'.cell? ⟨gb2, 2, none⟩ = some (.int .i64 a1_2)) ∧ (Kd.R k28 28 w' w.heap.size (fun k_ => some k_ ≠ (s_.2.1 : Value).ownBlock ∧ k_ ≠ gb2) s_.1 t315) ∧ (Kd.R k28 28 w' w.heap.size (fun k_ => some k_ ≠ (s_.1 : Value).ownBlock ∧ k_ ≠ gb2) s_.2.1 y318) ∧ (w'.heap[gb1]? = some (.cells #[.slice A0_0 l0_0.length c0_0] 26 (0, 0))) ∧ (w'.heap[gb2]? = some (.cells #[.int .i64 a1_0, .int .i64 a1_1, .int .i64 a1_2] 28 (0, 0))) ∧ (w'.heap[gb3]? = some (.cells #[.slice none 0 0] 26 (0, 0))) ∧ (w'.heap[s_.2.2]? = some (.cells #[.slice none 0 0] 26 (0, 0))) ∧ (w.heap.size ≤ s_.2.2) ∧ (w.heap.size ≤ s_.2.2) ∧ (gb1 ≠ s_.2.2) ∧ (s_.2.2 ≠ gb1) ∧ (gb2 ≠ s_.2.2) ∧ (s_.2.2 ≠ gb2) ∧ (gb3 ≠ s_.2.2) ∧ (s_.2.2 ≠ gb3) ∧ (Below w.heap.size w w')) ?_ ?_
   rotate_left
   rotate_left
   ·
    skip
    rintro ⟨v316, v319, gb4⟩ w15 ⟨hS_, h0_, h1_, h2_, h3_, h4_, h5_, h6_, h7_, h8_, h9_, h10_, h11_, h12_, h13_, h14_⟩
    have n0_ : Aside0 (Kd.R k28 28 w15 w.heap.size (fun k_ => some k_ ≠ (v319 : Value).ownBlock ∧ k_ ≠ gb2) v316 t315) := ⟨h0_⟩
    have n1_ : Aside0 (Kd.R k28 28 w15 w.heap.size (fun k_ => some k_ ≠ (v316 : Value).ownBlock ∧ k_ ≠ gb2) v319 y318) := ⟨h1_⟩
    have n2_ : Aside0 (w15.heap[gb1]? = some (.cells #[.slice A0_0 l0_0.length c0_0] 26 (0, 0))) := ⟨h2_⟩
    have n3_ : Aside0 (w15.heap[gb2]? = some (.cells #[.int .i64 a1_0, .int .i64 a1_1, .int .i64 a1_2] 28 (0, 0))) := ⟨h3_⟩
    have n4_ : Aside0 (w15.heap[gb3]? = some (.cells #[.slice none 0 0] 26 (0, 0))) := ⟨h4_⟩
    have n5_ : Aside0 (w15.heap[gb4]? = some (.cells #[.slice none 0 0] 26 (0, 0))) := ⟨h5_⟩
    have n6_ : Aside0 (w.heap.size ≤ gb4) := ⟨h6_⟩
    have n7_ : Aside0 (w.heap.size ≤ gb4) := ⟨h7_⟩
    have n8_ : Aside0 (gb1 ≠ gb4) := ⟨h8_⟩
    have n9_ : Aside0 (gb4 ≠ gb1) := ⟨h9_⟩
    have n10_ : Aside0 (gb2 ≠ gb4) := ⟨h10_⟩
    have n11_ : Aside0 (gb4 ≠ gb2) := ⟨h11_⟩
    have n12_ : Aside0 (gb3 ≠ gb4) := ⟨h12_⟩
    have n13_ : Aside0 (gb4 ≠ gb3) := ⟨h13_⟩
    have n14_ : Aside0 (Below w.heap.size w w15) := ⟨h14_⟩
    clear BK1
    clear BK2
    clear BK3
    clear HB
    clear h0_ h1_ h2_ h3_ h4_ h5_ h6_ h7_ h8_ h9_ h10_ h11_ h12_ h13_ h14_
    have HO317 := n0_
    have HO320 := n1_
    have BK1 := n2_
    have BK2 := n3_
    have BK3 := n4_
    have BK4 := n5_
    have GW4 := n6_
    have GE4 := n7_
    have NB1_4 := n8_
    have NB4_1 := n9_
    have NB2_4 := n10_
    have NB4_2 := n11_
    have NB3_4 := n12_
    have NB4_3 := n13_
    have HB := n14_
    clear n0_ n1_ n2_ n3_ n4_ n5_ n6_ n7_ n8_ n9_ n10_ n11_ n12_ n13_ n14_
    have hHeld : w15.cell? ⟨gb1, 0, none⟩ = some (.slice A0_0 l0_0.length c0_0) ∧ w15.cell? ⟨gb2, 0, none⟩ = some (.int .i64 a1_0) ∧ w15.cell? ⟨gb2, 1, none⟩ = some (.int .i64 a1_1) ∧ w15.cell? ⟨gb2, 2, none⟩ = some (.int .i64 a1_2) := hS_
    obtain ⟨Ao17, co17, eo17⟩ := Kd.R_slice HO320.out
    (first | subst eo17 | (injection eo17 with f1_ f2_ f3_; have f4_ := f1_.symm; have f5_ := f3_.symm; clear f1_ f2_ f3_; subst f4_; subst f5_))
    refine norm_ (a' := ?_) ?_ ?_
    rotate_left
    ·
     simp only [putAll, Act.put, List.setIfInBounds_toArray, List.set_cons_zero, List.set_cons_succ]
     rfl
    refine oneK HT_ 5 (some 12) (fun K hK => ?_)
    refine Kd.R_append_rows_step k28 (w0 := w) w.heap.size (by rfl) (.tmp 9) (.tmp 11) 24 28 (.agg #[(.int .i64 0), (.int .i64 0), (.int .i64 0)]) 24 rfl Try.underlying24 info28 rfl (by decide) (by omega) v316 t315 y318 _ _ _ (fun k_ => some k_ ≠ (.slice Ao17 y318.length co17 : Value).ownBlock ∧ k_ ≠ gb2) (fun _ => False) rfl rfl ?aO ?aR (fun _ _ h => h) (fun _ h => h.elim) ?aF ?aB ?aS ?aL ?_
    (case aR => exact rs HO320)
    (case aB => exact (bw HB))
    (case aF => exact (fun k_ hk => ⟨Kd.fresh' (Kd.R_lt (ro HO320)) k_ hk, Kd.freshB (bk BK2) k_ hk⟩))
    (case aO => exact (ro HO317))
    (case aS => exact (below_size (bw HB)))
    (case aL => have := LMc4.out; omega)
    intro v322 w16 ho hb hg hat
    rw [← Ny321.out] at ho
    replace BK1 := Aside0.mk (blk_grown (bk BK1) hg (Kd.R_ne HO317.out BK1.out (by decide)))
    replace BK2 := Aside0.mk (blk_grown (bk BK2) hg (Kd.R_away HO317.out (fun _ hk => hk.2)))
    replace BK3 := Aside0.mk (blk_grown (bk BK3) hg (Kd.R_ne HO317.out BK3.out (by decide)))
    replace HO320 := Aside0.mk (Kd.R_after (ok := (fun k_ => k_ ≠ gb2)) (by (with_reducible repeat (first | apply Kd.R_alloc | apply Kd.R_drewN | apply Kd.R_drew)); exact Kd.R_mono HO320.out (fun _ hk => ⟨hk.2, hk.1⟩)) hg hat)
    replace BK4 := Aside0.mk (blk_grown (bk BK4) hg (Kd.R_ne HO317.out BK4.out (by decide)))
    replace HB := Aside0.mk (hb)
    have HO323 := Aside0.mk (ho)
    clear HO317
    clear ho hb hg hat
    obtain ⟨Ao18, co18, eo18⟩ := Kd.R_slice HO323.out
    (first | subst eo18 | (injection eo18 with f1_ f2_ f3_; have f4_ := f1_.symm; have f5_ := f3_.symm; clear f1_ f2_ f3_; subst f4_; subst f5_))
    refine hK.out _ _ ⟨bc BK1 0, bc BK2 0, bc BK2 1, bc BK2 2⟩ (fun hHeld => ?_)
    clear hK K
    refine normK (N := some 12) (h := ?_)
    refine pureK HT_ 6 (some 13) ?_
    exact norm_ (by first | (simp only [putAll, Act.put, List.setIfInBounds_toArray, List.set_cons_zero, List.set_cons_succ]; done) | (simp only [putAll, Act.put, List.setIfInBounds_toArray, List.set_cons_zero, List.set_cons_succ]; rfl)) (hJ2_4_5_7 (v316, .slice Ao17 y318.length co17, .slice Ao18 y321.length co18, gb4) _ ⟨hHeld, (by (with_reducible repeat (first | apply Kd.R_alloc | apply Kd.R_drewN | apply Kd.R_drew)); exact Kd.R_mono HO320.out (fun _ hk => ⟨hk.2, hk.1⟩)), (ro HO323), (bk BK1), (bk BK2), (bk BK3), (bk BK4), GW4.out, GE4.out, NB1_4.out, NB4_1.out, NB2_4.out, NB4_2.out, NB3_4.out, NB4_3.out, (bw HB)⟩)
   intro hJ2_4_7
   refine join_ (σ := Value × Value) 4 #[true, true, true, true, true, false, false, false, false] (fun s_ => [(9, s_.1), (11, s_.2)]) (fun s_ w' => (w'.cell? ⟨gb1, 0, none⟩ = some (.slice A0_0 l0_0.length c0_0) ∧ w'.cell? ⟨gb2, 0, none⟩ = some (.int .i64 a1_0) ∧ w'.cell? ⟨gb2, 1, none⟩ = some (.int .i64 a1_1) ∧ w'.cell? ⟨gb2, 2, none⟩ = some (.int .i64 a1_2)) ∧ (Kd.R k28 28 w' w.heap.size (fun k_ => some k_ ≠ (s_.2 : Value).ownBlock ∧ k_ ≠ gb2) s_.1 t315) ∧ (Kd.R k28 28 w' w.heap.size (fun k_ => some k_ ≠ (s_.1 : Value).ownBlock ∧ k_ ≠ gb2) s_.2 y318) ∧ (w'.heap[gb1]? = some (.cells #[.slice A0_0 l0_0.length c0_0] 26 (0, 0))) ∧ (w'.heap[gb2]? = some (.cells #[.int .i64 a1_0, .int .i64 a1_1, .int .i64 a1_2] 28 (0, 0))) ∧ (w'.heap[gb3]? = some (.cells #[.slice none 0 0] 26 (0, 0))) ∧ (Below w.heap.size w w')) ?_ ?_
   rotate_left
   rotate_left
   ·
    skip
    rintro ⟨v316, v319⟩ w14 ⟨hS_, h0_, h1_, h2_, h3_, h4_, h5_⟩
    have n0_ : Aside0 (Kd.R k28 28 w14 w.heap.size (fun k_ => some k_ ≠ (v319 : Value).ownBlock ∧ k_ ≠ gb2) v316 t315) := ⟨h0_⟩
    have n1_ : Aside0 (Kd.R k28 28 w14 w.heap.size (fun k_ => some k_ ≠ (v316 : Value).ownBlock ∧ k_ ≠ gb2) v319 y318) := ⟨h1_⟩
    have n2_ : Aside0 (w14.heap[gb1]? = some (.cells #[.slice A0_0 l0_0.length c0_0] 26 (0, 0))) := ⟨h2_⟩
    have n3_ : Aside0 (w14.heap[gb2]? = some (.cells #[.int .i64 a1_0, .int .i64 a1_1, .int .i64 a1_2] 28 (0, 0))) := ⟨h3_⟩
    have n4_ : Aside0 (w14.heap[gb3]? = some (.cells #[.slice none 0 0] 26 (0, 0))) := ⟨h4_⟩
    have n5_ : Aside0 (Below w.heap.size w w14) := ⟨h5_⟩
    clear BK1
    clear BK2
    clear BK3
    clear HB
    clear h0_ h1_ h2_ h3_ h4_ h5_
    have HO317 := n0_
    have HO320 := n1_
    have BK1 := n2_
    have BK2 := n3_
    have BK3 := n4_
    have HB := n5_
    clear n0_ n1_ n2_ n3_ n4_ n5_
    have hHeld : w14.cell? ⟨gb1, 0, none⟩ = some (.slice A0_0 l0_0.length c0_0) ∧ w14.cell? ⟨gb2, 0, none⟩ = some (.int .i64 a1_0) ∧ w14.cell? ⟨gb2, 1, none⟩ = some (.int .i64 a1_1) ∧ w14.cell? ⟨gb2, 2, none⟩ = some (.int .i64 a1_2) := hS_
    obtain ⟨Ao16, co16, eo16⟩ := Kd.R_slice HO320.out
    (first | subst eo16 | (injection eo16 with f1_ f2_ f3_; have f4_ := f1_.symm; have f5_ := f3_.symm; clear f1_ f2_ f3_; subst f4_; subst f5_))
    refine norm_ (a' := ?_) ?_ ?_
    rotate_left
    ·
     simp only [putAll, Act.put, List.setIfInBounds_toArray, List.set_cons_zero, List.set_cons_succ]
     rfl
    refine two_ (i := 5) (j := 7) (Ni := some 12) (Nj := some 6) #[true, true, true, true, true, true, false, false, false] #[true, true, true, true, true, false, false, true, false] rfl rfl rfl rfl (two_of HT_.out (by kernel_rfl)) (by decide) (by decide) (fun K hK => ?_) (fun K hK => ?_)
    rotate_left
    ·
     skip
     refine box_step ?hg (N := 6) ?hd (cs := #[.slice none 0 0]) (t := 26) ?hr ?_; (case hd => rfl); (case hg => rfl); (case hr => first | (go_simp; done) | (go_simp; rfl))
     intro gb4 hg w15 hbox hb
     replace HO317 := ko HO317 hb
     replace HO320 := ko HO320 hb
     have BK4 := Aside0.mk (hbox)
     have GW4 := gw HB hg
     have GE4 := gw HB hg
     replace HB := kw HB hb
     obtain ⟨NB1_4, NB4_1, NB2_4, NB4_2, NB3_4, NB4_3⟩ := nv3 hg BK1 BK2 BK3
     refine mv3 hb BK1 BK2 BK3 ?_
     clear BK1 BK2 BK3
     intro BK1 BK2 BK3
     clear hb hbox hg
     refine hK.out _ _ ⟨bc BK1 0, bc BK2 0, bc BK2 1, bc BK2 2⟩ (fun hHeld => ?_)
     clear hK K
     refine normK (N := some 6) (h := ?_)
     exact norm_ (by first | (simp only [putAll, Act.put, List.setIfInBounds_toArray, List.set_cons_zero, List.set_cons_succ]; done) | (simp only [putAll, Act.put, List.setIfInBounds_toArray, List.set_cons_zero, List.set_cons_succ]; rfl)) (hJ2_4_7 (v316, (.slice Ao16 y318.length co16), gb4) _ ⟨hHeld, (ro HO317), (ro HO320), (bk BK1), (bk BK2), (bk BK3), (bk BK4), GW4.out, GE4.out, NB1_4.out, NB4_1.out, NB2_4.out, NB4_2.out, NB3_4.out, NB4_3.out, (bw HB)⟩)
    skip
    refine Kd.R_append_rows_step k28 (w0 := w) w.heap.size (by rfl) (.tmp 9) (.tmp 11) 24 28 (.agg #[(.int .i64 0), (.int .i64 0), (.int .i64 0)]) 24 rfl Try.underlying24 info28 rfl (by decide) (by omega) v316 t315 y318 _ _ _ (fun k_ => some k_ ≠ (.slice Ao16 y318.length co16 : Value).ownBlock ∧ k_ ≠ gb2) (fun _ => False) rfl rfl ?aO ?aR (fun _ _ h => h) (fun _ h => h.elim) ?aF ?aB ?aS ?aL ?_
    (case aR => exact rs HO320)
    (case aB => exact (bw HB))
    (case aF => exact (fun k_ hk => ⟨Kd.fresh' (Kd.R_lt (ro HO320)) k_ hk, Kd.freshB (bk BK2) k_ hk⟩))
    (case aO => exact (ro HO317))
    (case aS => exact (below_size (bw HB)))
    (case aL => have := LMc4.out; omega)
    intro v322 w15 ho hb hg hat
    rw [← Ny321.out] at ho
    replace BK1 := Aside0.mk (blk_grown (bk BK1) hg (Kd.R_ne HO317.out BK1.out (by decide)))
    replace BK2 := Aside0.mk (blk_grown (bk BK2) hg (Kd.R_away HO317.out (fun _ hk => hk.2)))
    replace BK3 := Aside0.mk (blk_grown (bk BK3) hg (Kd.R_ne HO317.out BK3.out (by decide)))
    replace HO320 := Aside0.mk (Kd.R_after (ok := (fun k_ => k_ ≠ gb2)) (by (with_reducible repeat (first | apply Kd.R_alloc | apply Kd.R_drewN | apply Kd.R_drew)); exact Kd.R_mono HO320.out (fun _ hk => ⟨hk.2, hk.1⟩)) hg hat)
    replace HB := Aside0.mk (hb)
    have HO323 := Aside0.mk (ho)
    clear HO317
    clear ho hb hg hat
    obtain ⟨Ao17, co17, eo17⟩ := Kd.R_slice HO323.out
    (first | subst eo17 | (injection eo17 with f1_ f2_ f3_; have f4_ := f1_.symm; have f5_ := f3_.symm; clear f1_ f2_ f3_; subst f4_; subst f5_))
    refine hK.out _ _ ⟨bc BK1 0, bc BK2 0, bc BK2 1, bc BK2 2⟩ (fun hHeld => ?_)
    clear hK K
    refine normK (N := some 12) (h := ?_)
    refine pureK HT_ 6 (some 13) ?_
    exact norm_ (by first | (simp only [putAll, Act.put, List.setIfInBounds_toArray, List.set_cons_zero, List.set_cons_succ]; done) | (simp only [putAll, Act.put, List.setIfInBounds_toArray, List.set_cons_zero, List.set_cons_succ]; rfl)) (hJ2_4_5 (v316, .slice Ao16 y318.length co16, .slice Ao17 y321.length co17) _ ⟨hHeld, (by (with_reducible repeat (first | apply Kd.R_alloc | apply Kd.R_drewN | apply Kd.R_drew)); exact Kd.R_mono HO320.out (fun _ hk => ⟨hk.2, hk.1⟩)), (ro HO323), (bk BK1), (bk BK2), (bk BK3), (bw HB)⟩)
   intro hJ2_4
   refine join_ (σ := Value × Nat) 4 #[true, true, true, true, false, false, false, true, false] (fun s_ => [(9, s_.1), (6, .pointer (some ⟨s_.2, 0, none⟩))]) (fun s_ w' => (w'.cell? ⟨gb1, 0, none⟩ = some (.slice A0_0 l0_0.length c0_0) ∧ w'.cell? ⟨gb2, 0, none⟩ = some (.int .i64 a1_0) ∧ w'.cell? ⟨gb2, 1, none⟩ = some (.int .i64 a1_1) ∧ w'.cell? ⟨gb2, 2, none⟩ = some (.int .i64 a1_2)) ∧ (Kd.R k28 28 w' w.heap.size (fun k_ => k_ ≠ gb2) s_.1 t315) ∧ (w'.heap[gb1]? = some (.cells #[.slice A0_0 l0_0.length c0_0] 26 (0, 0))) ∧ (w'.heap[gb2]? = some (.cells #[.int .i64 a1_0, .int .i64 a1_1, .int .i64 a1_2] 28 (0, 0))) ∧ (w'.heap[gb3]? = some (.cells #[.slice none 0 0] 26 (0, 0))) ∧ (w'.heap[s_.2]? = some (.cells #[.slice none 0 0] 26 (0, 0))) ∧ (w.heap.size ≤ s_.2) ∧ (w.heap.size ≤ s_.2) ∧ (gb1 ≠ s_.2) ∧ (s_.2 ≠ gb1) ∧ (gb2 ≠ s_.2) ∧ (s_.2 ≠ gb2) ∧ (gb3 ≠ s_.2) ∧ (s_.2 ≠ gb3) ∧ (Below w.heap.size w w')) ?_ ?_
   rotate_left
   rotate_left
   ·
    skip
    rintro ⟨v316, gb4⟩ w13 ⟨hS_, h0_, h1_, h2_, h3_, h4_, h5_, h6_, h7_, h8_, h9_, h10_, h11_, h12_, h13_⟩
    have n0_ : Aside0 (Kd.R k28 28 w13 w.heap.size (fun k_ => k_ ≠ gb2) v316 t315) := ⟨h0_⟩
    have n1_ : Aside0 (w13.heap[gb1]? = some (.cells #[.slice A0_0 l0_0.length c0_0] 26 (0, 0))) := ⟨h1_⟩
    have n2_ : Aside0 (w13.heap[gb2]? = some (.cells #[.int .i64 a1_0, .int .i64 a1_1, .int .i64 a1_2] 28 (0, 0))) := ⟨h2_⟩
    have n3_ : Aside0 (w13.heap[gb3]? = some (.cells #[.slice none 0 0] 26 (0, 0))) := ⟨h3_⟩
    have n4_ : Aside0 (w13.heap[gb4]? = some (.cells #[.slice none 0 0] 26 (0, 0))) := ⟨h4_⟩
    have n5_ : Aside0 (w.heap.size ≤ gb4) := ⟨h5_⟩
    have n6_ : Aside0 (w.heap.size ≤ gb4) := ⟨h6_⟩
    have n7_ : Aside0 (gb1 ≠ gb4) := ⟨h7_⟩
    have n8_ : Aside0 (gb4 ≠ gb1) := ⟨h8_⟩
    have n9_ : Aside0 (gb2 ≠ gb4) := ⟨h9_⟩
    have n10_ : Aside0 (gb4 ≠ gb2) := ⟨h10_⟩
    have n11_ : Aside0 (gb3 ≠ gb4) := ⟨h11_⟩
    have n12_ : Aside0 (gb4 ≠ gb3) := ⟨h12_⟩
    have n13_ : Aside0 (Below w.heap.size w w13) := ⟨h13_⟩
    clear BK1
    clear BK2
    clear BK3
    clear HB
    clear h0_ h1_ h2_ h3_ h4_ h5_ h6_ h7_ h8_ h9_ h10_ h11_ h12_ h13_
    have HO317 := n0_
    have BK1 := n1_
    have BK2 := n2_
    have BK3 := n3_
    have BK4 := n4_
    have GW4 := n5_
    have GE4 := n6_
    have NB1_4 := n7_
    have NB4_1 := n8_
    have NB2_4 := n9_
    have NB4_2 := n10_
    have NB3_4 := n11_
    have NB4_3 := n12_
    have HB := n13_
    clear n0_ n1_ n2_ n3_ n4_ n5_ n6_ n7_ n8_ n9_ n10_ n11_ n12_ n13_
    have hHeld : w13.cell? ⟨gb1, 0, none⟩ = some (.slice A0_0 l0_0.length c0_0) ∧ w13.cell? ⟨gb2, 0, none⟩ = some (.int .i64 a1_0) ∧ w13.cell? ⟨gb2, 1, none⟩ = some (.int .i64 a1_1) ∧ w13.cell? ⟨gb2, 2, none⟩ = some (.int .i64 a1_2) := hS_
    refine norm_ (a' := ?_) ?_ ?_
    rotate_left
    ·
     simp only [putAll, Act.put, List.setIfInBounds_toArray, List.set_cons_zero, List.set_cons_succ]
     rfl
    refine oneK HT_ 4 (some 11) (fun K hK => ?_)
    refine Kd.R_lit_step k28 _ 28 ?hg (N := 11) ?hd (xs := ([(⟨a1_0, a1_1, a1_2⟩ : S28)] : List (S28))) (inner := [.int .i64 a1_0, .int .i64 a1_1, .int .i64 a1_2]) (ok := fun _ => True) (okp := fun _ => True) ?hr ?hp (fun _ hk => hk) trivial (Below.refl _ _) (Nat.le_refl _) (by simp) ?_; (case hd => rfl); (case hg => rfl); (case hr => first | (go_simp; done) | (go_simp; rfl)); (case hp => exact (Reps.c3 (show Kd.M k28 _ _ _ (⟨a1_0, a1_1, a1_2⟩ : S28) [.int .i64 a1_0, .int .i64 a1_1, .int .i64 a1_2] from (k28_mkM _ _ _ (⟨a1_0, a1_1, a1_2⟩ : S28) )) (Reps.none _ _)))
    intro v319 w14 ho15 hb hg_ hnew_
    clear hg_ hnew_
    (first | rw [← Ny318.out] at ho15 | (simp only [Int.reduceToNat] at ho15; rw [← Ny318.out] at ho15))
    have HO320 := Aside0.mk (Kd.R_lower (Kd.R_newB (Kd.R_new' ho15 (Kd.R_lt (ro HO317))) (bk BK2)) (below_size (bw HB)))
    replace HO317 := Aside0.mk (Kd.R_elder' (ro HO317) (Kd.R_base ho15) hb)
    refine mv4 hb BK1 BK2 BK3 BK4 ?_
    clear BK1 BK2 BK3 BK4
    intro BK1 BK2 BK3 BK4
    replace HB := kw HB hb
    clear hb ho15
    refine hK.out _ _ ⟨bc BK1 0, bc BK2 0, bc BK2 1, bc BK2 2⟩ (fun hHeld => ?_)
    clear hK K
    refine normK (N := some 11) (h := ?_)
    exact norm_ (by first | (simp only [putAll, Act.put, List.setIfInBounds_toArray, List.set_cons_zero, List.set_cons_succ]; done) | (simp only [putAll, Act.put, List.setIfInBounds_toArray, List.set_cons_zero, List.set_cons_succ]; rfl)) (hJ2_4_7 (v316, v319, gb4) _ ⟨hHeld, (by (with_reducible repeat (first | apply Kd.R_alloc | apply Kd.R_drewN | apply Kd.R_drew)); exact Kd.R_mono HO317.out (fun _ hk => ⟨hk.2, hk.1⟩)), (by (with_reducible repeat (first | apply Kd.R_alloc | apply Kd.R_drewN | apply Kd.R_drew)); exact Kd.R_mono HO320.out (fun _ hk => ⟨hk.1.2, hk.2⟩)), (bk BK1), (bk BK2), (bk BK3), (bk BK4), GW4.out, GE4.out, NB1_4.out, NB4_1.out, NB2_4.out, NB4_2.out, NB3_4.out, NB4_3.out, (bw HB)⟩)
   intro hJ2_7
   refine join_ (σ := Value × Nat) 4 #[true, true, false, true, true, false, false, true, false] (fun s_ => [(11, s_.1), (6, .pointer (some ⟨s_.2, 0, none⟩))]) (fun s_ w' => (w'.cell? ⟨gb1, 0, none⟩ = some (.slice A0_0 l0_0.length c0_0) ∧ w'.cell? ⟨gb2, 0, none⟩ = some (.int .i64 a1_0) ∧ w'.cell? ⟨gb2, 1, none⟩ = some (.int .i64 a1_1) ∧ w'.cell? ⟨gb2, 2, none⟩ = some (.int .i64 a1_2)) ∧ (Kd.R k28 28 w' w.heap.size (fun k_ => k_ ≠ gb2) s_.1 y318) ∧ (w'.heap[gb1]? = some (.cells #[.slice A0_0 l0_0.length c0_0] 26 (0, 0))) ∧ (w'.heap[gb2]? = some (.cells #[.int .i64 a1_0, .int .i64 a1_1, .int .i64 a1_2] 28 (0, 0))) ∧ (w'.heap[gb3]? = some (.cells #[.slice none 0 0] 26 (0, 0))) ∧ (w'.heap[s_.2]? = some (.cells #[.slice none 0 0] 26 (0, 0))) ∧ (w.heap.size ≤ s_.2) ∧ (w.heap.size ≤ s_.2) ∧ (gb1 ≠ s_.2) ∧ (s_.2 ≠ gb1) ∧ (gb2 ≠ s_.2) ∧ (s_.2 ≠ gb2) ∧ (gb3 ≠ s_.2) ∧ (s_.2 ≠ gb3) ∧ (Below w.heap.size w w')) ?_ ?_
   rotate_left
   rotate_left
   ·
    skip
    rintro ⟨v319, gb4⟩ w14 ⟨hS_, h0_, h1_, h2_, h3_, h4_, h5_, h6_, h7_, h8_, h9_, h10_, h11_, h12_, h13_⟩
    have n0_ : Aside0 (Kd.R k28 28 w14 w.heap.size (fun k_ => k_ ≠ gb2) v319 y318) := ⟨h0_⟩
    have n1_ : Aside0 (w14.heap[gb1]? = some (.cells #[.slice A0_0 l0_0.length c0_0] 26 (0, 0))) := ⟨h1_⟩
    have n2_ : Aside0 (w14.heap[gb2]? = some (.cells #[.int .i64 a1_0, .int .i64 a1_1, .int .i64 a1_2] 28 (0, 0))) := ⟨h2_⟩
    have n3_ : Aside0 (w14.heap[gb3]? = some (.cells #[.slice none 0 0] 26 (0, 0))) := ⟨h3_⟩
    have n4_ : Aside0 (w14.heap[gb4]? = some (.cells #[.slice none 0 0] 26 (0, 0))) := ⟨h4_⟩
    have n5_ : Aside0 (w.heap.size ≤ gb4) := ⟨h5_⟩
    have n6_ : Aside0 (w.heap.size ≤ gb4) := ⟨h6_⟩
    have n7_ : Aside0 (gb1 ≠ gb4) := ⟨h7_⟩
    have n8_ : Aside0 (gb4 ≠ gb1) := ⟨h8_⟩
    have n9_ : Aside0 (gb2 ≠ gb4) := ⟨h9_⟩
    have n10_ : Aside0 (gb4 ≠ gb2) := ⟨h10_⟩
    have n11_ : Aside0 (gb3 ≠ gb4) := ⟨h11_⟩
    have n12_ : Aside0 (gb4 ≠ gb3) := ⟨h12_⟩
    have n13_ : Aside0 (Below w.heap.size w w14) := ⟨h13_⟩
    clear BK1
    clear BK2
    clear BK3
    clear HB
    clear h0_ h1_ h2_ h3_ h4_ h5_ h6_ h7_ h8_ h9_ h10_ h11_ h12_ h13_
    have HO320 := n0_
    have BK1 := n1_
    have BK2 := n2_
    have BK3 := n3_
    have BK4 := n4_
    have GW4 := n5_
    have GE4 := n6_
    have NB1_4 := n7_
    have NB4_1 := n8_
    have NB2_4 := n9_
    have NB4_2 := n10_
    have NB3_4 := n11_
    have NB4_3 := n12_
    have HB := n13_
    clear n0_ n1_ n2_ n3_ n4_ n5_ n6_ n7_ n8_ n9_ n10_ n11_ n12_ n13_
    have hHeld : w14.cell? ⟨gb1, 0, none⟩ = some (.slice A0_0 l0_0.length c0_0) ∧ w14.cell? ⟨gb2, 0, none⟩ = some (.int .i64 a1_0) ∧ w14.cell? ⟨gb2, 1, none⟩ = some (.int .i64 a1_1) ∧ w14.cell? ⟨gb2, 2, none⟩ = some (.int .i64 a1_2) := hS_
    refine norm_ (a' := ?_) ?_ ?_
    rotate_left
    ·
     simp only [putAll, Act.put, List.setIfInBounds_toArray, List.set_cons_zero, List.set_cons_succ]
     rfl
    refine oneK HT_ 2 (some 9) (fun K hK => ?_)
    refine goes_ Try.func47 (by kernel_rfl) rfl #[.slice A0_0 l0_0.length c0_0] (by rfl) rfl rfl argR ?_
    with_reducible refine (impl_Clue_47.calls _ _ l0_0 t315 _ ?side1 ?side2 A3.out).mono ?_
    (case side1 => exact cb HR0_0 HB)
    (case side2 => exact HC0_0.out)
    rintro e w15 ⟨v316, rfl, ho0, hb⟩
    refine ⟨_, rfl, ?_⟩
    have HO317 := Aside0.mk (Kd.R_lower (Kd.R_newB (Kd.R_new' ho0 (Kd.R_lt (ro HO320))) (bk BK2)) (below_size (bw HB)))
    replace HO320 := Aside0.mk (Kd.R_elder' (ro HO320) (Kd.R_base ho0) hb)
    refine mv4 hb BK1 BK2 BK3 BK4 ?_
    clear BK1 BK2 BK3 BK4
    intro BK1 BK2 BK3 BK4
    replace HB := kw HB hb
    (try clear hb)
    (try clear hb2)
    (try clear hk)
    (try clear hi)
    (try clear ho0)
    refine hK.out _ _ ⟨bc BK1 0, bc BK2 0, bc BK2 1, bc BK2 2⟩ (fun hHeld => ?_)
    clear hK K
    refine normK (N := some 9) (h := ?_)
    exact norm_ (by first | (simp only [putAll, Act.put, List.setIfInBounds_toArray, List.set_cons_zero, List.set_cons_succ]; done) | (simp only [putAll, Act.put, List.setIfInBounds_toArray, List.set_cons_zero, List.set_cons_succ]; rfl)) (hJ2_4_7 (v316, v319, gb4) _ ⟨hHeld, (by (with_reducible repeat (first | apply Kd.R_alloc | apply Kd.R_drewN | apply Kd.R_drew)); exact Kd.R_mono HO317.out (fun _ hk => ⟨hk.1.2, hk.2⟩)), (by (with_reducible repeat (first | apply Kd.R_alloc | apply Kd.R_drewN | apply Kd.R_drew)); exact Kd.R_mono HO320.out (fun _ hk => ⟨hk.2, hk.1⟩)), (bk BK1), (bk BK2), (bk BK3), (bk BK4), GW4.out, GE4.out, NB1_4.out, NB4_1.out, NB2_4.out, NB4_2.out, NB3_4.out, NB4_3.out, (bw HB)⟩)
   intro hJ4_7
   refine join_ (σ := Value) 5 #[true, true, true, true, false, false, false, false, false] (fun s_ => [(9, s_)]) (fun s_ w' => (w'.cell? ⟨gb1, 0, none⟩ = some (.slice A0_0 l0_0.length c0_0) ∧ w'.cell? ⟨gb2, 0, none⟩ = some (.int .i64 a1_0) ∧ w'.cell? ⟨gb2, 1, none⟩ = some (.int .i64 a1_1) ∧ w'.cell? ⟨gb2, 2, none⟩ = some (.int .i64 a1_2)) ∧ (Kd.R k28 28 w' w.heap.size (fun k_ => k_ ≠ gb2) s_ t315) ∧ (w'.heap[gb1]? = some (.cells #[.slice A0_0 l0_0.length c0_0] 26 (0, 0))) ∧ (w'.heap[gb2]? = some (.cells #[.int .i64 a1_0, .int .i64 a1_1, .int .i64 a1_2] 28 (0, 0))) ∧ (w'.heap[gb3]? = some (.cells #[.slice none 0 0] 26 (0, 0))) ∧ (Below w.heap.size w w')) ?_ ?_
   rotate_left
   rotate_left
   ·
    skip
    rintro v316 w12 ⟨hS_, h0_, h1_, h2_, h3_, h4_⟩
    have n0_ : Aside0 (Kd.R k28 28 w12 w.heap.size (fun k_ => k_ ≠ gb2) v316 t315) := ⟨h0_⟩
    have n1_ : Aside0 (w12.heap[gb1]? = some (.cells #[.slice A0_0 l0_0.length c0_0] 26 (0, 0))) := ⟨h1_⟩
    have n2_ : Aside0 (w12.heap[gb2]? = some (.cells #[.int .i64 a1_0, .int .i64 a1_1, .int .i64 a1_2] 28 (0, 0))) := ⟨h2_⟩
    have n3_ : Aside0 (w12.heap[gb3]? = some (.cells #[.slice none 0 0] 26 (0, 0))) := ⟨h3_⟩
    have n4_ : Aside0 (Below w.heap.size w w12) := ⟨h4_⟩
    clear BK1
    clear BK2
    clear BK3
    clear HB
    clear h0_ h1_ h2_ h3_ h4_
    have HO317 := n0_
    have BK1 := n1_
    have BK2 := n2_
    have BK3 := n3_
    have HB := n4_
    clear n0_ n1_ n2_ n3_ n4_
    have hHeld : w12.cell? ⟨gb1, 0, none⟩ = some (.slice A0_0 l0_0.length c0_0) ∧ w12.cell? ⟨gb2, 0, none⟩ = some (.int .i64 a1_0) ∧ w12.cell? ⟨gb2, 1, none⟩ = some (.int .i64 a1_1) ∧ w12.cell? ⟨gb2, 2, none⟩ = some (.int .i64 a1_2) := hS_
    refine norm_ (a' := ?_) ?_ ?_
    rotate_left
    ·
     simp only [putAll, Act.put, List.setIfInBounds_toArray, List.set_cons_zero, List.set_cons_succ]
     rfl
    refine two_ (i := 4) (j := 7) (Ni := some 11) (Nj := some 6) #[true, true, true, true, true, false, false, false, false] #[true, true, true, true, false, false, false, true, false] rfl rfl rfl rfl (two_of HT_.out (by kernel_rfl)) (by decide) (by decide) (fun K hK => ?_) (fun K hK => ?_)
    ·
     skip
     refine Kd.R_lit_step k28 _ 28 ?hg (N := 11) ?hd (xs := ([(⟨a1_0, a1_1, a1_2⟩ : S28)] : List (S28))) (inner := [.int .i64 a1_0, .int .i64 a1_1, .int .i64 a1_2]) (ok := fun _ => True) (okp := fun _ => True) ?hr ?hp (fun _ hk => hk) trivial (Below.refl _ _) (Nat.le_refl _) (by simp) ?_; (case hd => rfl); (case hg => rfl); (case hr => first | (go_simp; done) | (go_simp; rfl)); (case hp => exact (Reps.c3 (show Kd.M k28 _ _ _ (⟨a1_0, a1_1, a1_2⟩ : S28) [.int .i64 a1_0, .int .i64 a1_1, .int .i64 a1_2] from (k28_mkM _ _ _ (⟨a1_0, a1_1, a1_2⟩ : S28) )) (Reps.none _ _)))
     intro v319 w13 ho14 hb hg_ hnew_
     clear hg_ hnew_
     (first | rw [← Ny318.out] at ho14 | (simp only [Int.reduceToNat] at ho14; rw [← Ny318.out] at ho14))
     have HO320 := Aside0.mk (Kd.R_lower (Kd.R_newB (Kd.R_new' ho14 (Kd.R_lt (ro HO317))) (bk BK2)) (below_size (bw HB)))
     replace HO317 := Aside0.mk (Kd.R_elder' (ro HO317) (Kd.R_base ho14) hb)
     refine mv3 hb BK1 BK2 BK3 ?_
     clear BK1 BK2 BK3
     intro BK1 BK2 BK3
     replace HB := kw HB hb
     clear hb ho14
     refine hK.out _ _ ⟨bc BK1 0, bc BK2 0, bc BK2 1, bc BK2 2⟩ (fun hHeld => ?_)
     clear hK K
     refine normK (N := some 11) (h := ?_)
     exact norm_ (by first | (simp only [putAll, Act.put, List.setIfInBounds_toArray, List.set_cons_zero, List.set_cons_succ]; done) | (simp only [putAll, Act.put, List.setIfInBounds_toArray, List.set_cons_zero, List.set_cons_succ]; rfl)) (hJ2_4 (v316, v319) _ ⟨hHeld, (by (with_reducible repeat (first | apply Kd.R_alloc | apply Kd.R_drewN | apply Kd.R_drew)); exact Kd.R_mono HO317.out (fun _ hk => ⟨hk.2, hk.1⟩)), (by (with_reducible repeat (first | apply Kd.R_alloc | apply Kd.R_drewN | apply Kd.R_drew)); exact Kd.R_mono HO320.out (fun _ hk => ⟨hk.1.2, hk.2⟩)), (bk BK1), (bk BK2), (bk BK3), (bw HB)⟩)
    skip
    refine box_step ?hg (N := 6) ?hd (cs := #[.slice none 0 0]) (t := 26) ?hr ?_; (case hd => rfl); (case hg => rfl); (case hr => first | (go_simp; done) | (go_simp; rfl))
    intro gb4 hg w13 hbox hb
    replace HO317 := ko HO317 hb
    have BK4 := Aside0.mk (hbox)
    have GW4 := gw HB hg
    have GE4 := gw HB hg
    replace HB := kw HB hb
    obtain ⟨NB1_4, NB4_1, NB2_4, NB4_2, NB3_4, NB4_3⟩ := nv3 hg BK1 BK2 BK3
    refine mv3 hb BK1 BK2 BK3 ?_
    clear BK1 BK2 BK3
    intro BK1 BK2 BK3
    clear hb hbox hg
    refine hK.out _ _ ⟨bc BK1 0, bc BK2 0, bc BK2 1, bc BK2 2⟩ (fun hHeld => ?_)
    clear hK K
    refine normK (N := some 6) (h := ?_)
    exact norm_ (by first | (simp only [putAll, Act.put, List.setIfInBounds_toArray, List.set_cons_zero, List.set_cons_succ]; done) | (simp only [putAll, Act.put, List.setIfInBounds_toArray, List.set_cons_zero, List.set_cons_succ]; rfl)) (hJ2_7 (v316, gb4) _ ⟨hHeld, (ro HO317), (bk BK1), (bk BK2), (bk BK3), (bk BK4), GW4.out, GE4.out, NB1_4.out, NB4_1.out, NB2_4.out, NB4_2.out, NB3_4.out, NB4_3.out, (bw HB)⟩)
   intro hJ2
   refine join_ (σ := Value) 5 #[true, true, false, true, true, false, false, false, false] (fun s_ => [(11, s_)]) (fun s_ w' => (w'.cell? ⟨gb1, 0, none⟩ = some (.slice A0_0 l0_0.length c0_0) ∧ w'.cell? ⟨gb2, 0, none⟩ = some (.int .i64 a1_0) ∧ w'.cell? ⟨gb2, 1, none⟩ = some (.int .i64 a1_1) ∧ w'.cell? ⟨gb2, 2, none⟩ = some (.int .i64 a1_2)) ∧ (Kd.R k28 28 w' w.heap.size (fun k_ => k_ ≠ gb2) s_ y318) ∧ (w'.heap[gb1]? = some (.cells #[.slice A0_0 l0_0.length c0_0] 26 (0, 0))) ∧ (w'.heap[gb2]? = some (.cells #[.int .i64 a1_0, .int .i64 a1_1, .int .i64 a1_2] 28 (0, 0))) ∧ (w'.heap[gb3]? = some (.cells #[.slice none 0 0] 26 (0, 0))) ∧ (Below w.heap.size w w')) ?_ ?_
   rotate_left
   rotate_left
   ·
    skip
    rintro v319 w13 ⟨hS_, h0_, h1_, h2_, h3_, h4_⟩
    have n0_ : Aside0 (Kd.R k28 28 w13 w.heap.size (fun k_ => k_ ≠ gb2) v319 y318) := ⟨h0_⟩
    have n1_ : Aside0 (w13.heap[gb1]? = some (.cells #[.slice A0_0 l0_0.length c0_0] 26 (0, 0))) := ⟨h1_⟩
    have n2_ : Aside0 (w13.heap[gb2]? = some (.cells #[.int .i64 a1_0, .int .i64 a1_1, .int .i64 a1_2] 28 (0, 0))) := ⟨h2_⟩
    have n3_ : Aside0 (w13.heap[gb3]? = some (.cells #[.slice none 0 0] 26 (0, 0))) := ⟨h3_⟩
    have n4_ : Aside0 (Below w.heap.size w w13) := ⟨h4_⟩
    clear BK1
    clear BK2
    clear BK3
    clear HB
    clear h0_ h1_ h2_ h3_ h4_
    have HO320 := n0_
    have BK1 := n1_
    have BK2 := n2_
    have BK3 := n3_
    have HB := n4_
    clear n0_ n1_ n2_ n3_ n4_
    have hHeld : w13.cell? ⟨gb1, 0, none⟩ = some (.slice A0_0 l0_0.length c0_0) ∧ w13.cell? ⟨gb2, 0, none⟩ = some (.int .i64 a1_0) ∧ w13.cell? ⟨gb2, 1, none⟩ = some (.int .i64 a1_1) ∧ w13.cell? ⟨gb2, 2, none⟩ = some (.int .i64 a1_2) := hS_
    refine norm_ (a' := ?_) ?_ ?_
    rotate_left
    ·
     simp only [putAll, Act.put, List.setIfInBounds_toArray, List.set_cons_zero, List.set_cons_succ]
     rfl
    refine two_ (i := 2) (j := 7) (Ni := some 9) (Nj := some 6) #[true, true, true, true, true, false, false, false, false] #[true, true, false, true, true, false, false, true, false] rfl rfl rfl rfl (two_of HT_.out (by kernel_rfl)) (by decide) (by decide) (fun K hK => ?_) (fun K hK => ?_)
    rotate_left
    ·
     skip
     refine box_step ?hg (N := 6) ?hd (cs := #[.slice none 0 0]) (t := 26) ?hr ?_; (case hd => rfl); (case hg => rfl); (case hr => first | (go_simp; done) | (go_simp; rfl))
     intro gb4 hg w14 hbox hb
     replace HO320 := ko HO320 hb
     have BK4 := Aside0.mk (hbox)
     have GW4 := gw HB hg
     have GE4 := gw HB hg
     replace HB := kw HB hb
     obtain ⟨NB1_4, NB4_1, NB2_4, NB4_2, NB3_4, NB4_3⟩ := nv3 hg BK1 BK2 BK3
     refine mv3 hb BK1 BK2 BK3 ?_
     clear BK1 BK2 BK3
     intro BK1 BK2 BK3
     clear hb hbox hg
     refine hK.out _ _ ⟨bc BK1 0, bc BK2 0, bc BK2 1, bc BK2 2⟩ (fun hHeld => ?_)
     clear hK K
     refine normK (N := some 6) (h := ?_)
     exact norm_ (by first | (simp only [putAll, Act.put, List.setIfInBounds_toArray, List.set_cons_zero, List.set_cons_succ]; done) | (simp only [putAll, Act.put, List.setIfInBounds_toArray, List.set_cons_zero, List.set_cons_succ]; rfl)) (hJ4_7 (v319, gb4) _ ⟨hHeld, (ro HO320), (bk BK1), (bk BK2), (bk BK3), (bk BK4), GW4.out, GE4.out, NB1_4.out, NB4_1.out, NB2_4.out, NB4_2.out, NB3_4.out, NB4_3.out, (bw HB)⟩)
    skip
    refine goes_ Try.func47 (by kernel_rfl) rfl #[.slice A0_0 l0_0.length c0_0] (by rfl) rfl rfl argR ?_
    with_reducible refine (impl_Clue_47.calls _ _ l0_0 t315 _ ?side1 ?side2 A3.out).mono ?_
    (case side1 => exact cb HR0_0 HB)
    (case side2 => exact HC0_0.out)
    rintro e w14 ⟨v316, rfl, ho0, hb⟩
    refine ⟨_, rfl, ?_⟩
    have HO317 := Aside0.mk (Kd.R_lower (Kd.R_newB (Kd.R_new' ho0 (Kd.R_lt (ro HO320))) (bk BK2)) (below_size (bw HB)))
    replace HO320 := Aside0.mk (Kd.R_elder' (ro HO320) (Kd.R_base ho0) hb)
    refine mv3 hb BK1 BK2 BK3 ?_
    clear BK1 BK2 BK3
    intro BK1 BK2 BK3
    replace HB := kw HB hb
    (try clear hb)
    (try clear hb2)
    (try clear hk)
    (try clear hi)
    (try clear ho0)
    refine hK.out _ _ ⟨bc BK1 0, bc BK2 0, bc BK2 1, bc BK2 2⟩ (fun hHeld => ?_)
    clear hK K
    refine normK (N := some 9) (h := ?_)
    exact norm_ (by first | (simp only [putAll, Act.put, List.setIfInBounds_toArray, List.set_cons_zero, List.set_cons_succ]; done) | (simp only [putAll, Act.put, List.setIfInBounds_toArray, List.set_cons_zero, List.set_cons_succ]; rfl)) (hJ2_4 (v316, v319) _ ⟨hHeld, (by (with_reducible repeat (first | apply Kd.R_alloc | apply Kd.R_drewN | apply Kd.R_drew)); exact Kd.R_mono HO317.out (fun _ hk => ⟨hk.1.2, hk.2⟩)), (by (with_reducible repeat (first | apply Kd.R_alloc | apply Kd.R_drewN | apply Kd.R_drew)); exact Kd.R_mono HO320.out (fun _ hk => ⟨hk.2, hk.1⟩)), (bk BK1), (bk BK2), (bk BK3), (bw HB)⟩)
   intro hJ4
   refine join_ (σ := Nat) 5 #[true, true, false, true, false, false, false, true, false] (fun s_ => [(6, .pointer (some ⟨s_, 0, none⟩))]) (fun s_ w' => (w'.cell? ⟨gb1, 0, none⟩ = some (.slice A0_0 l0_0.length c0_0) ∧ w'.cell? ⟨gb2, 0, none⟩ = some (.int .i64 a1_0) ∧ w'.cell? ⟨gb2, 1, none⟩ = some (.int .i64 a1_1) ∧ w'.cell? ⟨gb2, 2, none⟩ = some (.int .i64 a1_2)) ∧ (w'.heap[gb1]? = some (.cells #[.slice A0_0 l0_0.length c0_0] 26 (0, 0))) ∧ (w'.heap[gb2]? = some (.cells #[.int .i64 a1_0, .int .i64 a1_1, .int .i64 a1_2] 28 (0, 0))) ∧ (w'.heap[gb3]? = some (.cells #[.slice none 0 0] 26 (0, 0))) ∧ (w'.heap[s_]? = some (.cells #[.slice none 0 0] 26 (0, 0))) ∧ (w.heap.size ≤ s_) ∧ (w.heap.size ≤ s_) ∧ (gb1 ≠ s_) ∧ (s_ ≠ gb1) ∧ (gb2 ≠ s_) ∧ (s_ ≠ gb2) ∧ (gb3 ≠ s_) ∧ (s_ ≠ gb3) ∧ (Below w.heap.size w w')) ?_ ?_
   rotate_left
   ·
    intro hJ7
    refine three_ (i := 2) (j := 4) (k := 7) (Ni := some 9) (Nj := some 11) (Nk := some 6) #[true, true, true, true, false, false, false, false, false] #[true, true, false, true, true, false, false, false, false] #[true, true, false, true, false, false, false, true, false] rfl rfl rfl rfl rfl rfl (three_of HT_.out (by kernel_rfl)) (by decide) (by decide) (by decide) (fun K hK => ?_) (fun K hK => ?_) (fun K hK => ?_)
    ·
     skip
     refine goes_ Try.func47 (by kernel_rfl) rfl #[.slice A0_0 l0_0.length c0_0] (by rfl) rfl rfl argR ?_
     with_reducible refine (impl_Clue_47.calls _ _ l0_0 t315 _ ?side1 ?side2 A3.out).mono ?_
     (case side1 => exact cb HR0_0 HB)
     (case side2 => exact HC0_0.out)
     rintro e w11 ⟨v316, rfl, ho0, hb⟩
     refine ⟨_, rfl, ?_⟩
     have HO317 := Aside0.mk (Kd.R_lower (Kd.R_newB ho0 (bk BK2)) (below_size (bw HB)))
     refine mv3 hb BK1 BK2 BK3 ?_
     clear BK1 BK2 BK3
     intro BK1 BK2 BK3
     replace HB := kw HB hb
     (try clear hb)
     (try clear hb2)
     (try clear hk)
     (try clear hi)
     (try clear ho0)
     refine hK.out _ _ ⟨bc BK1 0, bc BK2 0, bc BK2 1, bc BK2 2⟩ (fun hHeld => ?_)
     clear hK K
     refine normK (N := some 9) (h := ?_)
     exact norm_ (by first | (simp only [putAll, Act.put, List.setIfInBounds_toArray, List.set_cons_zero, List.set_cons_succ]; done) | (simp only [putAll, Act.put, List.setIfInBounds_toArray, List.set_cons_zero, List.set_cons_succ]; rfl)) (hJ2 (v316) _ ⟨hHeld, (by (with_reducible repeat (first | apply Kd.R_alloc | apply Kd.R_drewN | apply Kd.R_drew)); exact Kd.R_mono HO317.out (fun _ hk => hk.2)), (bk BK1), (bk BK2), (bk BK3), (bw HB)⟩)
    ·
     skip
     refine Kd.R_lit_step k28 _ 28 ?hg (N := 11) ?hd (xs := ([(⟨a1_0, a1_1, a1_2⟩ : S28)] : List (S28))) (inner := [.int .i64 a1_0, .int .i64 a1_1, .int .i64 a1_2]) (ok := fun _ => True) (okp := fun _ => True) ?hr ?hp (fun _ hk => hk) trivial (Below.refl _ _) (Nat.le_refl _) (by simp) ?_; (case hd => rfl); (case hg => rfl); (case hr => first | (go_simp; done) | (go_simp; rfl)); (case hp => exact (Reps.c3 (show Kd.M k28 _ _ _ (⟨a1_0, a1_1, a1_2⟩ : S28) [.int .i64 a1_0, .int .i64 a1_1, .int .i64 a1_2] from (k28_mkM _ _ _ (⟨a1_0, a1_1, a1_2⟩ : S28) )) (Reps.none _ _)))
     intro v319 w11 ho12 hb hg_ hnew_
     clear hg_ hnew_
     (first | rw [← Ny318.out] at ho12 | (simp only [Int.reduceToNat] at ho12; rw [← Ny318.out] at ho12))
     have HO320 := Aside0.mk (Kd.R_lower (Kd.R_newB ho12 (bk BK2)) (below_size (bw HB)))
     refine mv3 hb BK1 BK2 BK3 ?_
     clear BK1 BK2 BK3
     intro BK1 BK2 BK3
     replace HB := kw HB hb
     clear hb ho12
     refine hK.out _ _ ⟨bc BK1 0, bc BK2 0, bc BK2 1, bc BK2 2⟩ (fun hHeld => ?_)
     clear hK K
     refine normK (N := some 11) (h := ?_)
     exact norm_ (by first | (simp only [putAll, Act.put, List.setIfInBounds_toArray, List.set_cons_zero, List.set_cons_succ]; done) | (simp only [putAll, Act.put, List.setIfInBounds_toArray, List.set_cons_zero, List.set_cons_succ]; rfl)) (hJ4 (v319) _ ⟨hHeld, (by (with_reducible repeat (first | apply Kd.R_alloc | apply Kd.R_drewN | apply Kd.R_drew)); exact Kd.R_mono HO320.out (fun _ hk => hk.2)), (bk BK1), (bk BK2), (bk BK3), (bw HB)⟩)
    ·
     skip
     refine box_step ?hg (N := 6) ?hd (cs := #[.slice none 0 0]) (t := 26) ?hr ?_; (case hd => rfl); (case hg => rfl); (case hr => first | (go_simp; done) | (go_simp; rfl))
     intro gb4 hg w11 hbox hb
     have BK4 := Aside0.mk (hbox)
     have GW4 := gw HB hg
     have GE4 := gw HB hg
     replace HB := kw HB hb
     obtain ⟨NB1_4, NB4_1, NB2_4, NB4_2, NB3_4, NB4_3⟩ := nv3 hg BK1 BK2 BK3
     refine mv3 hb BK1 BK2 BK3 ?_
     clear BK1 BK2 BK3
     intro BK1 BK2 BK3
     clear hb hbox hg
     refine hK.out _ _ ⟨bc BK1 0, bc BK2 0, bc BK2 1, bc BK2 2⟩ (fun hHeld => ?_)
     clear hK K
     refine normK (N := some 6) (h := ?_)
     exact norm_ (by first | (simp only [putAll, Act.put, List.setIfInBounds_toArray, List.set_cons_zero, List.set_cons_succ]; done) | (simp only [putAll, Act.put, List.setIfInBounds_toArray, List.set_cons_zero, List.set_cons_succ]; rfl)) (hJ7 (gb4) _ ⟨hHeld, (bk BK1), (bk BK2), (bk BK3), (bk BK4), GW4.out, GE4.out, NB1_4.out, NB4_1.out, NB2_4.out, NB4_2.out, NB3_4.out, NB4_3.out, (bw HB)⟩)
   skip
   rintro gb4 w12 ⟨hS_, h0_, h1_, h2_, h3_, h4_, h5_, h6_, h7_, h8_, h9_, h10_, h11_, h12_⟩
   have n0_ : Aside0 (w12.heap[gb1]? = some (.cells #[.slice A0_0 l0_0.length c0_0] 26 (0, 0))) := ⟨h0_⟩
   have n1_ : Aside0 (w12.heap[gb2]? = some (.cells #[.int .i64 a1_0, .int .i64 a1_1, .int .i64 a1_2] 28 (0, 0))) := ⟨h1_⟩
   have n2_ : Aside0 (w12.heap[gb3]? = some (.cells #[.slice none 0 0] 26 (0, 0))) := ⟨h2_⟩
   have n3_ : Aside0 (w12.heap[gb4]? = some (.cells #[.slice none 0 0] 26 (0, 0))) := ⟨h3_⟩
   have n4_ : Aside0 (w.heap.size ≤ gb4) := ⟨h4_⟩
   have n5_ : Aside0 (w.heap.size ≤ gb4) := ⟨h5_⟩
   have n6_ : Aside0 (gb1 ≠ gb4) := ⟨h6_⟩
   have n7_ : Aside0 (gb4 ≠ gb1) := ⟨h7_⟩
   have n8_ : Aside0 (gb2 ≠ gb4) := ⟨h8_⟩
   have n9_ : Aside0 (gb4 ≠ gb2) := ⟨h9_⟩
   have n10_ : Aside0 (gb3 ≠ gb4) := ⟨h10_⟩
   have n11_ : Aside0 (gb4 ≠ gb3) := ⟨h11_⟩
   have n12_ : Aside0 (Below w.heap.size w w12) := ⟨h12_⟩
   clear BK1
   clear BK2
   clear BK3
   clear HB
   clear h0_ h1_ h2_ h3_ h4_ h5_ h6_ h7_ h8_ h9_ h10_ h11_ h12_
   have BK1 := n0_
   have BK2 := n1_
   have BK3 := n2_
   have BK4 := n3_
   have GW4 := n4_
   have GE4 := n5_
   have NB1_4 := n6_
   have NB4_1 := n7_
   have NB2_4 := n8_
   have NB4_2 := n9_
   have NB3_4 := n10_
   have NB4_3 := n11_
   have HB := n12_
   clear n0_ n1_ n2_ n3_ n4_ n5_ n6_ n7_ n8_ n9_ n10_ n11_ n12_
   have hHeld : w12.cell? ⟨gb1, 0, none⟩ = some (.slice A0_0 l0_0.length c0_0) ∧ w12.cell? ⟨gb2, 0, none⟩ = some (.int .i64 a1_0) ∧ w12.cell? ⟨gb2, 1, none⟩ = some (.int .i64 a1_1) ∧ w12.cell? ⟨gb2, 2, none⟩ = some (.int .i64 a1_2) := hS_
   refine norm_ (a' := ?_) ?_ ?_
   rotate_left
   ·
    simp only [putAll, Act.put, List.setIfInBounds_toArray, List.set_cons_zero, List.set_cons_succ]
    rfl
   refine two_ (i := 2) (j := 4) (Ni := some 9) (Nj := some 11) #[true, true, true, true, false, false, false, true, false] #[true, true, false, true, true, false, false, true, false] rfl rfl rfl rfl (two_of HT_.out (by kernel_rfl)) (by decide) (by decide) (fun K hK => ?_) (fun K hK => ?_)
   rotate_left
   ·
    skip
    refine Kd.R_lit_step k28 _ 28 ?hg (N := 11) ?hd (xs := ([(⟨a1_0, a1_1, a1_2⟩ : S28)] : List (S28))) (inner := [.int .i64 a1_0, .int .i64 a1_1, .int .i64 a1_2]) (ok := fun _ => True) (okp := fun _ => True) ?hr ?hp (fun _ hk => hk) trivial (Below.refl _ _) (Nat.le_refl _) (by simp) ?_; (case hd => rfl); (case hg => rfl); (case hr => first | (go_simp; done) | (go_simp; rfl)); (case hp => exact (Reps.c3 (show Kd.M k28 _ _ _ (⟨a1_0, a1_1, a1_2⟩ : S28) [.int .i64 a1_0, .int .i64 a1_1, .int .i64 a1_2] from (k28_mkM _ _ _ (⟨a1_0, a1_1, a1_2⟩ : S28) )) (Reps.none _ _)))
    intro v319 w13 ho14 hb hg_ hnew_
    clear hg_ hnew_
    (first | rw [← Ny318.out] at ho14 | (simp only [Int.reduceToNat] at ho14; rw [← Ny318.out] at ho14))
    have HO320 := Aside0.mk (Kd.R_lower (Kd.R_newB ho14 (bk BK2)) (below_size (bw HB)))
    refine mv4 hb BK1 BK2 BK3 BK4 ?_
    clear BK1 BK2 BK3 BK4
    intro BK1 BK2 BK3 BK4
    replace HB := kw HB hb
    clear hb ho14
    refine hK.out _ _ ⟨bc BK1 0, bc BK2 0, bc BK2 1, bc BK2 2⟩ (fun hHeld => ?_)
    clear hK K
    refine normK (N := some 11) (h := ?_)
    exact norm_ (by first | (simp only [putAll, Act.put, List.setIfInBounds_toArray, List.set_cons_zero, List.set_cons_succ]; done) | (simp only [putAll, Act.put, List.setIfInBounds_toArray, List.set_cons_zero, List.set_cons_succ]; rfl)) (hJ4_7 (v319, gb4) _ ⟨hHeld, (by (with_reducible repeat (first | apply Kd.R_alloc | apply Kd.R_drewN | apply Kd.R_drew)); exact Kd.R_mono HO320.out (fun _ hk => hk.2)), (bk BK1), (bk BK2), (bk BK3), (bk BK4), GW4.out, GE4.out, NB1_4.out, NB4_1.out, NB2_4.out, NB4_2.out, NB3_4.out, NB4_3.out, (bw HB)⟩)
   skip
   refine goes_ Try.func47 (by kernel_rfl) rfl #[.slice A0_0 l0_0.length c0_0] (by rfl) rfl rfl argR ?_
   with_reducible refine (impl_Clue_47.calls _ _ l0_0 t315 _ ?side1 ?side2 A3.out).mono ?_
   (case side1 => exact cb HR0_0 HB)
   (case side2 => exact HC0_0.out)
   rintro e w13 ⟨v316, rfl, ho0, hb⟩
   refine ⟨_, rfl, ?_⟩
   have HO317 := Aside0.mk (Kd.R_lower (Kd.R_newB ho0 (bk BK2)) (below_size (bw HB)))
   refine mv4 hb BK1 BK2 BK3 BK4 ?_
   clear BK1 BK2 BK3 BK4
   intro BK1 BK2 BK3 BK4
   replace HB := kw HB hb
   (try clear hb)
   (try clear hb2)
   (try clear hk)
   (try clear hi)
   (try clear ho0)
   refine hK.out _ _ ⟨bc BK1 0, bc BK2 0, bc BK2 1, bc BK2 2⟩ (fun hHeld => ?_)
   clear hK K
   refine normK (N := some 9) (h := ?_)
   exact norm_ (by first | (simp only [putAll, Act.put, List.setIfInBounds_toArray, List.set_cons_zero, List.set_cons_succ]; done) | (simp only [putAll, Act.put, List.setIfInBounds_toArray, List.set_cons_zero, List.set_cons_succ]; rfl)) (hJ2_7 (v316, gb4) _ ⟨hHeld, (by (with_reducible repeat (first | apply Kd.R_alloc | apply Kd.R_drewN | apply Kd.R_drew)); exact Kd.R_mono HO317.out (fun _ hk => hk.2)), (bk BK1), (bk BK2), (bk BK3), (bk BK4), GW4.out, GE4.out, NB1_4.out, NB4_1.out, NB2_4.out, NB4_2.out, NB3_4.out, NB4_3.out, (bw HB)⟩)
  rintro ⟨v316, v319, v322, gb4⟩ w18 ⟨hS_, h0_, h1_, h2_, h3_, h4_, h5_, h6_, h7_, h8_, h9_, h10_, h11_, h12_, h13_, h14_⟩
  have n0_ : Aside0 (Kd.R k28 28 w18 w.heap.size (fun k_ => some k_ ≠ (v322 : Value).ownBlock ∧ k_ ≠ gb2) v319 y318) := ⟨h0_⟩
  have n1_ : Aside0 (Kd.R k28 28 w18 w.heap.size (fun k_ => some k_ ≠ (v319 : Value).ownBlock ∧ k_ ≠ gb2) v322 y321) := ⟨h1_⟩
  have n2_ : Aside0 (w18.heap[gb1]? = some (.cells #[.slice A0_0 l0_0.length c0_0] 26 (0, 0))) := ⟨h2_⟩
  have n3_ : Aside0 (w18.heap[gb2]? = some (.cells #[.int .i64 a1_0, .int .i64 a1_1, .int .i64 a1_2] 28 (0, 0))) := ⟨h3_⟩
  have n4_ : Aside0 (w18.heap[gb3]? = some (.cells #[.slice none 0 0] 26 (0, 0))) := ⟨h4_⟩
  have n5_ : Aside0 (w18.heap[gb4]? = some (.cells #[.slice none 0 0] 26 (0, 0))) := ⟨h5_⟩
  have n6_ : Aside0 (w.heap.size ≤ gb4) := ⟨h6_⟩
  have n7_ : Aside0 (w.heap.size ≤ gb4) := ⟨h7_⟩
  have n8_ : Aside0 (gb1 ≠ gb4) := ⟨h8_⟩
  have n9_ : Aside0 (gb4 ≠ gb1) := ⟨h9_⟩
  have n10_ : Aside0 (gb2 ≠ gb4) := ⟨h10_⟩
  have n11_ : Aside0 (gb4 ≠ gb2) := ⟨h11_⟩
  have n12_ : Aside0 (gb3 ≠ gb4) := ⟨h12_⟩
  have n13_ : Aside0 (gb4 ≠ gb3) := ⟨h13_⟩
  have n14_ : Aside0 (Below w.heap.size w w18) := ⟨h14_⟩
  clear BK1
  clear BK2
  clear BK3
  clear HB
  clear h0_ h1_ h2_ h3_ h4_ h5_ h6_ h7_ h8_ h9_ h10_ h11_ h12_ h13_ h14_
  have HO320 := n0_
  have HO323 := n1_
  have BK1 := n2_
  have BK2 := n3_
  have BK3 := n4_
  have BK4 := n5_
  have GW4 := n6_
  have GE4 := n7_
  have NB1_4 := n8_
  have NB4_1 := n9_
  have NB2_4 := n10_
  have NB4_2 := n11_
  have NB3_4 := n12_
  have NB4_3 := n13_
  have HB := n14_
  clear n0_ n1_ n2_ n3_ n4_ n5_ n6_ n7_ n8_ n9_ n10_ n11_ n12_ n13_ n14_
  have hHeld : w18.cell? ⟨gb1, 0, none⟩ = some (.slice A0_0 l0_0.length c0_0) ∧ w18.cell? ⟨gb2, 0, none⟩ = some (.int .i64 a1_0) ∧ w18.cell? ⟨gb2, 1, none⟩ = some (.int .i64 a1_1) ∧ w18.cell? ⟨gb2, 2, none⟩ = some (.int .i64 a1_2) := hS_
  obtain ⟨Ao19, co19, eo19⟩ := Kd.R_slice HO323.out
  (first | subst eo19 | (injection eo19 with f1_ f2_ f3_; have f4_ := f1_.symm; have f5_ := f3_.symm; clear f1_ f2_ f3_; subst f4_; subst f5_))
  refine norm_ (a' := ?_) ?_ ?_
  rotate_left
  ·
   simp only [putAll, Act.put, List.setIfInBounds_toArray, List.set_cons_zero, List.set_cons_succ]
   rfl
  refine oneK HT_ 8 none (fun K hK => ?_)
  have hs20 : w18.cell? ⟨gb4, 0, none⟩ = some (.slice none 0 0) := bc BK4 0
  have hfs20 := blk_frozen BK4.out 0
  have hns20_0 := NB1_4.out
  have hns20_1 := NB2_4.out
  have hns20_2 := NB3_4.out
  have hms20_0 := NB4_1.out
  have hms20_1 := NB4_2.out
  have hms20_2 := NB4_3.out
  refine skip_ (w1 := ?_) (by rfl) rfl ?_ ?_
  rotate_left
  ·
   go_simp
   rfl
  refine hK.out _ _ ⟨((cell_far (p := ⟨gb4, _, none⟩) NB1_4.out _).trans (hHeld.1)), ((cell_far (p := ⟨gb4, _, none⟩) NB2_4.out _).trans (hHeld.2.1)), ((cell_far (p := ⟨gb4, _, none⟩) NB2_4.out _).trans (hHeld.2.2.1)), ((cell_far (p := ⟨gb4, _, none⟩) NB2_4.out _).trans (hHeld.2.2.2))⟩ (fun hHeld => ?_)
  clear hK K
  refine done_ (done_of HT_.out (by kernel_rfl)) ?_
  have hnb21 := up3 NB4_1 NB4_2 NB4_3
  obtain ⟨hcz24_0, hfz24_0⟩ := kc1 BK4
  try go_wp2_with (first | ((with_reducible refine gate_callee (f := 11) rfl ?_); refine goK (some 15) Try.func11 #[.agg #[.slice Ao19 y321.length co19]] ?_; (with_reducible refine (impl_IsPuzzle.calls k _ _ y321 true _ ?side1 ?side2 A5.out).mono ?_); (case side1 => exact rsf HO323 BK4); (case side2 => exact rl HO323); rintro e w25 ⟨rfl, hb⟩; refine ⟨_, rfl, ?_⟩; replace HO320 := kof HO320 BK4 hb; replace HO323 := kof HO323 BK4 hb; replace BK1 := kbf BK1 NB1_4 hb; replace BK2 := kbf BK2 NB2_4 hb; replace BK3 := kbf BK3 NB3_4 hb; replace BK4 := kbt (cs' := #[.slice Ao19 y321.length co19]) BK4 hb; replace HB := kw HB hb; (try clear hb); (try clear hk); obtain ⟨hcz26_0, hfz26_0⟩ := kc1 BK4; have hnb27 := up2 NB3_1 NB3_2; obtain ⟨hcz29_0, hfz29_0⟩ := kc1 BK3))
  refine bodyPost_ret (results_ct rfl _ _ gb3 26 #[.slice Ao19 y321.length co19] (0, 0) _ rfl (bt BK3) Try.underlying26 rfl (by kernel_rfl)) rfl ?_
  exact ⟨_, eqR, by (with_reducible repeat (first | apply Kd.R_alloc | apply Kd.R_drewN | apply Kd.R_drew)); exact Kd.R_mono (Kd.R_far (p := ⟨gb3, 0, none⟩) (Kd.R_types HO323.out BK3.out (by decide)) (fun _ hk => hk.2) (.slice Ao19 y321.length co19)) (fun _ hk => trivial), bw HB⟩
 simp only [Option.some.injEq, Prod.mk.injEq] at H
 obtain ⟨rfl, rfl⟩ := H
 go_enter Try.func18, Try.ntmps18
 try go_wp2_with (first | ((with_reducible refine gate_dst (N := 2) rfl ?_); refine boxK HB (N := 2) (cs := #[.slice A0_0 l0_0.length c0_0]) (t := 26) (h := ?_); clear HB; intro gb1 hg w30 BK1 GW1 GE1 HB hb; clear hb hg) | ((with_reducible refine gate_dst (N := 3) rfl ?_); refine boxK HB (N := 3) (cs := #[.int .i64 a1_0, .int .i64 a1_1, .int .i64 a1_2]) (t := 28) (h := ?_); clear HB; intro gb2 hg w31 BK2 GW2 GE2 HB hb; obtain ⟨NB1_2, NB2_1⟩ := nv1 hg BK1; replace BK1 := kb BK1 hb; clear hb hg) | ((with_reducible refine gate_dst (N := 4) rfl ?_); refine boxK HB (N := 4) (cs := #[.slice none 0 0]) (t := 26) (h := ?_); clear HB; intro gb3 hg w32 BK3 GW3 GE3 HB hb; obtain ⟨NB1_3, NB3_1, NB2_3, NB3_2⟩ := nv2 hg BK1 BK2; refine mv2 hb BK1 BK2 ?_; clear BK1 BK2; intro BK1 BK2; clear hb hg))
 refine md3 BK1 BK2 BK3 ?_
 clear BK1 BK2 BK3
 intro BK1 BK2 BK3
 replace HB := Aside0.mk (below_drew1 HB.out)
 refine startK 9 (S := fun w' => w'.cell? ⟨gb1, 0, none⟩ = some (.slice A0_0 l0_0.length c0_0) ∧ w'.cell? ⟨gb2, 0, none⟩ = some (.int .i64 a1_0) ∧ w'.cell? ⟨gb2, 1, none⟩ = some (.int .i64 a1_1) ∧ w'.cell? ⟨gb2, 2, none⟩ = some (.int .i64 a1_2)) (ds := []) impl_AddClue.tab1 impl_AddClue.bits1 (hS := ⟨bc BK1 0, bc BK2 0, bc BK2 1, bc BK2 2⟩) (h := fun hHeld HT_ HW_ => ?_)
 generalize w32.drew = w33 at BK1 BK2 BK3 HB hHeld ⊢
 refine pureK HT_ 0 (some 7) ?_
 refine takeK HT_ HW_ hHeld 1 (some 8) ?_
 refine takeK HT_ HW_ hHeld 3 (some 10) ?_
 refine join_ (σ := Value × Value × Value × Nat) 1 #[true, true, true, true, true, true, true, true, false] (fun s_ => [(9, s_.1), (11, s_.2.1), (12, s_.2.2.1), (6, .pointer (some ⟨s_.2.2.2, 0, none⟩)), (13, .agg #[s_.2.2.1])]) (fun s_ w' => (w'.cell? ⟨gb1, 0, none⟩ = some (.slice A0_0 l0_0.length c0_0) ∧ w'.cell? ⟨gb2, 0, none⟩ = some (.int .i64 a1_0) ∧ w'.cell? ⟨gb2, 1, none⟩ = some (.int .i64 a1_1) ∧ w'.cell? ⟨gb2, 2, none⟩ = some (.int .i64 a1_2)) ∧ (Kd.R k28 28 w' w.heap.size (fun k_ => some k_ ≠ (s_.2.2.1 : Value).ownBlock ∧ k_ ≠ gb2) s_.2.1 y318) ∧ (Kd.R k28 28 w' w.heap.size (fun k_ => some k_ ≠ (s_.2.1 : Value).ownBlock ∧ k_ ≠ gb2) s_.2.2.1 y321) ∧ (w'.heap[gb1]? = some (.cells #[.slice A0_0 l0_0.length c0_0] 26 (0, 0))) ∧ (w'.heap[gb2]? = some (.cells #[.int .i64 a1_0, .int .i64 a1_1, .int .i64 a1_2] 28 (0, 0))) ∧ (w'.heap[gb3]? = some (.cells #[.slice none 0 0] 26 (0, 0))) ∧ (w'.heap[s_.2.2.2]? = some (.cells #[.slice none 0 0] 26 (0, 0))) ∧ (w.heap.size ≤ s_.2.2.2) ∧ (w.heap.size ≤ s_.2.2.2) ∧ (gb1 ≠ s_.2.2.2) ∧ (s_.2.2.2 ≠ gb1) ∧ (gb2 ≠ s_.2.2.2) ∧ (s_.2.2.2 ≠ gb2) ∧ (gb3 ≠ s_.2.2.2) ∧ (s_.2.2.2 ≠ gb3) ∧ (Below w.heap.size w w')) ?_ ?_
 rotate_left
 ·
  intro hJ2_4_5_7
  refine join_ (σ := Value × Value × Value) 2 #[true, true, true, true, true, true, true, false, false] (fun s_ => [(9, s_.1), (11, s_.2.1), (12, s_.2.2), (13, .agg #[s_.2.2])]) (fun s_ w' => (w'.cell? ⟨gb1, 0, none⟩ = some (.slice A0_0 l0_0.length c0_0) ∧ w'.cell? ⟨gb2, 0, none⟩ = some (.int .i64 a1_0) ∧ w'.cell? ⟨gb2, 1, none⟩ = some (.int .i64 a1_1) ∧ w'.cell? ⟨gb2, 2, none⟩ = some (.int .i64 a1_2)) ∧ (Kd.R k28 28 w' w.heap.size (fun k_ => some k_ ≠ (s_.2.2 : Value).ownBlock ∧ k_ ≠ gb2) s_.2.1 y318) ∧ (Kd.R k28 28 w' w.heap.size (fun k_ => some k_ ≠ (s_.2.1 : Value).ownBlock ∧ k_ ≠ gb2) s_.2.2 y321) ∧ (w'.heap[gb1]? = some (.cells #[.slice A0_0 l0_0.length c0_0] 26 (0, 0))) ∧ (w'.heap[gb2]? = some (.cells #[.int .i64 a1_0, .int .i64 a1_1, .int .i64 a1_2] 28 (0, 0))) ∧ (w'.heap[gb3]? = some (.cells #[.slice none 0 0] 26 (0, 0))) ∧ (Below w.heap.size w w')) ?_ ?_
  rotate_left
  rotate_left
  ·
   skip
   rintro ⟨v316, v319, v322⟩ w40 ⟨hS_, h0_, h1_, h2_, h3_, h4_, h5_⟩
   have n0_ : Aside0 (Kd.R k28 28 w40 w.heap.size (fun k_ => some k_ ≠ (v322 : Value).ownBlock ∧ k_ ≠ gb2) v319 y318) := ⟨h0_⟩
   have n1_ : Aside0 (Kd.R k28 28 w40 w.heap.size (fun k_ => some k_ ≠ (v319 : Value).ownBlock ∧ k_ ≠ gb2) v322 y321) := ⟨h1_⟩
   have n2_ : Aside0 (w40.heap[gb1]? = some (.cells #[.slice A0_0 l0_0.length c0_0] 26 (0, 0))) := ⟨h2_⟩
   have n3_ : Aside0 (w40.heap[gb2]? = some (.cells #[.int .i64 a1_0, .int .i64 a1_1, .int .i64 a1_2] 28 (0, 0))) := ⟨h3_⟩
   have n4_ : Aside0 (w40.heap[gb3]? = some (.cells #[.slice none 0 0] 26 (0, 0))) := ⟨h4_⟩
   have n5_ : Aside0 (Below w.heap.size w w40) := ⟨h5_⟩
   clear BK1
   clear BK2
   clear BK3
   clear HB
   clear h0_ h1_ h2_ h3_ h4_ h5_
   have HO320 := n0_
   have HO323 := n1_
   have BK1 := n2_
   have BK2 := n3_
   have BK3 := n4_
   have HB := n5_
   clear n0_ n1_ n2_ n3_ n4_ n5_
   have hHeld : w40.cell? ⟨gb1, 0, none⟩ = some (.slice A0_0 l0_0.length c0_0) ∧ w40.cell? ⟨gb2, 0, none⟩ = some (.int .i64 a1_0) ∧ w40.cell? ⟨gb2, 1, none⟩ = some (.int .i64 a1_1) ∧ w40.cell? ⟨gb2, 2, none⟩ = some (.int .i64 a1_2) := hS_
   obtain ⟨Ao41, co41, eo41⟩ := Kd.R_slice HO323.out
   (first | subst eo41 | (injection eo41 with f1_ f2_ f3_; have f4_ := f1_.symm; have f5_ := f3_.symm; clear f1_ f2_ f3_; subst f4_; subst f5_))
   refine norm_ (a' := ?_) ?_ ?_
   rotate_left
   ·
    simp only [putAll, Act.put, List.setIfInBounds_toArray, List.set_cons_zero, List.set_cons_succ]
    rfl
   refine oneK HT_ 7 (some 6) (fun K hK => ?_)
   refine box_step ?hg (N := 6) ?hd (cs := #[.slice none 0 0]) (t := 26) ?hr ?_; (case hd => rfl); (case hg => rfl); (case hr => first | (go_simp; done) | (go_simp; rfl))
   intro gb4 hg w42 hbox hb
   replace HO320 := ko HO320 hb
   replace HO323 := ko HO323 hb
   have BK4 := Aside0.mk (hbox)
   have GW4 := gw HB hg
   have GE4 := gw HB hg
   replace HB := kw HB hb
   obtain ⟨NB1_4, NB4_1, NB2_4, NB4_2, NB3_4, NB4_3⟩ := nv3 hg BK1 BK2 BK3
   refine mv3 hb BK1 BK2 BK3 ?_
   clear BK1 BK2 BK3
   intro BK1 BK2 BK3
   clear hb hbox hg
   refine hK.out _ _ ⟨bc BK1 0, bc BK2 0, bc BK2 1, bc BK2 2⟩ (fun hHeld => ?_)
   clear hK K
   refine normK (N := some 6) (h := ?_)
   exact norm_ (by first | (simp only [putAll, Act.put, List.setIfInBounds_toArray, List.set_cons_zero, List.set_cons_succ]; done) | (simp only [putAll, Act.put, List.setIfInBounds_toArray, List.set_cons_zero, List.set_cons_succ]; rfl)) (hJ2_4_5_7 (v316, v319, .slice Ao41 y321.length co41, gb4) _ ⟨hHeld, (ro HO320), (ro HO323), (bk BK1), (bk BK2), (bk BK3), (bk BK4), GW4.out, GE4.out, NB1_4.out, NB4_1.out, NB2_4.out, NB4_2.out, NB3_4.out, NB4_3.out, (bw HB)⟩)
  intro hJ2_4_5
  refine join_ (σ := Value × Value × Nat) 3 #[true, true, true, true, true, false, false, true, false] (fun s_ => [(9, s_.1), (11, s_.2.1), (6, .pointer (some ⟨s_.2.2, 0, none⟩))]) (fun s_ w' => (w'.cell? ⟨gb1, 0, none⟩ = some (.slice A0_0 l0_0.length c0_0) ∧ w'.cell? ⟨gb2, 0, none⟩ = some (.int .i64 a1_0) ∧ w'.cell? ⟨gb2, 1, none⟩ = some (.int .i64 a1_1) ∧ w'.cell? ⟨gb2, 2, none⟩ = some (.int .i64 a1_2)) ∧ (Kd.R k28 28 w' w.heap.size (fun k_ => some k_ ≠ (s_.2.1 : Value).ownBlock ∧ k_ ≠ gb2) s_.1 t315) ∧ (Kd.R k28 28 w' w.heap.size (fun k_ => some k_ ≠ (s_.1 : Value).ownBlock ∧ k_ ≠ gb2) s_.2.1 y318) ∧ (w'.heap[gb1]? = some (.cells #[.slice A0_0 l0_0.length c0_0] 26 (0, 0))) ∧ (w'.heap[gb2]? = some (.cells #[.int .i64 a1_0, .int .i64 a1_1, .int .i64 a1_2] 28 (0, 0))) ∧ (w'.heap[gb3]? = some (.cells #[.slice none 0 0] 26 (0, 0))) ∧ (w'.heap[s_.2.2]? = some (.cells #[.slice none 0 0] 26 (0, 0))) ∧ (w.heap.size ≤ s_.2.2) ∧ (w.heap.size ≤ s_.2.2) ∧ (gb1 ≠ s_.2.2) ∧ (s_.2.2 ≠ gb1) ∧ (gb2 ≠ s_.2.2) ∧ (s_.2.2 ≠ gb2) ∧ (gb3 ≠ s_.2.2) ∧ (s_.2.2 ≠ gb3) ∧ (Below w.heap.size w w')) ?_ ?_
  rotate_left
  rotate_left
  ·
   skip
   rintro ⟨v316, v319, gb4⟩ w38 ⟨hS_, h0_, h1_, h2_, h3_, h4_, h5_, h6_, h7_, h8_, h9_, h10_, h11_, h12_, h13_, h14_⟩
   have n0_ : Aside0 (Kd.R k28 28 w38 w.heap.size (fun k_ => some k_ ≠ (v319 : Value).ownBlock ∧ k_ ≠ gb2) v316 t315) := ⟨h0_⟩
   have n1_ : Aside0 (Kd.R k28 28 w38 w.heap.size (fun k_ => some k_ ≠ (v316 : Value).ownBlock ∧ k_ ≠ gb2) v319 y318) := ⟨h1_⟩
   have n2_ : Aside0 (w38.heap[gb1]? = some (.cells #[.slice A0_0 l0_0.length c0_0] 26 (0, 0))) := ⟨h2_⟩
   have n3_ : Aside0 (w38.heap[gb2]? = some (.cells #[.int .i64 a1_0, .int .i64 a1_1, .int .i64 a1_2] 28 (0, 0))) := ⟨h3_⟩
   have n4_ : Aside0 (w38.heap[gb3]? = some (.cells #[.slice none 0 0] 26 (0, 0))) := ⟨h4_⟩
   have n5_ : Aside0 (w38.heap[gb4]? = some (.cells #[.slice none 0 0] 26 (0, 0))) := ⟨h5_⟩
   have n6_ : Aside0 (w.heap.size ≤ gb4) := ⟨h6_⟩
   have n7_ : Aside0 (w.heap.size ≤ gb4) := ⟨h7_⟩
   have n8_ : Aside0 (gb1 ≠ gb4) := ⟨h8_⟩
   have n9_ : Aside0 (gb4 ≠ gb1) := ⟨h9_⟩
   have n10_ : Aside0 (gb2 ≠ gb4) := ⟨h10_⟩
   have n11_ : Aside0 (gb4 ≠ gb2) := ⟨h11_⟩
   have n12_ : Aside0 (gb3 ≠ gb4) := ⟨h12_⟩
   have n13_ : Aside0 (gb4 ≠ gb3) := ⟨h13_⟩
   have n14_ : Aside0 (Below w.heap.size w w38) := ⟨h14_⟩
   clear BK1
   clear BK2
   clear BK3
   clear HB
   clear h0_ h1_ h2_ h3_ h4_ h5_ h6_ h7_ h8_ h9_ h10_ h11_ h12_ h13_ h14_
   have HO317 := n0_
   have HO320 := n1_
   have BK1 := n2_
   have BK2 := n3_
   have BK3 := n4_
   have BK4 := n5_
   have GW4 := n6_
   have GE4 := n7_
   have NB1_4 := n8_
   have NB4_1 := n9_
   have NB2_4 := n10_
   have NB4_2 := n11_
   have NB3_4 := n12_
   have NB4_3 := n13_
   have HB := n14_
   clear n0_ n1_ n2_ n3_ n4_ n5_ n6_ n7_ n8_ n9_ n10_ n11_ n12_ n13_ n14_
   have hHeld : w38.cell? ⟨gb1, 0, none⟩ = some (.slice A0_0 l0_0.length c0_0) ∧ w38.cell? ⟨gb2, 0, none⟩ = some (.int .i64 a1_0) ∧ w38.cell? ⟨gb2, 1, none⟩ = some (.int .i64 a1_1) ∧ w38.cell? ⟨gb2, 2, none⟩ = some (.int .i64 a1_2) := hS_
   obtain ⟨Ao40, co40, eo40⟩ := Kd.R_slice HO320.out
   (first | subst eo40 | (injection eo40 with f1_ f2_ f3_; have f4_ := f1_.symm; have f5_ := f3_.symm; clear f1_ f2_ f3_; subst f4_; subst f5_))
   refine norm_ (a' := ?_) ?_ ?_
   rotate_left
   ·
    simp only [putAll, Act.put, List.setIfInBounds_toArray, List.set_cons_zero, List.set_cons_succ]
    rfl
   refine oneK HT_ 5 (some 12) (fun K hK => ?_)
   refine Kd.R_append_rows_step k28 (w0 := w) w.heap.size (by rfl) (.tmp 9) (.tmp 11) 24 28 (.agg #[(.int .i64 0), (.int .i64 0), (.int .i64 0)]) 24 rfl Try.underlying24 info28 rfl (by decide) (by omega) v316 t315 y318 _ _ _ (fun k_ => some k_ ≠ (.slice Ao40 y318.length co40 : Value).ownBlock ∧ k_ ≠ gb2) (fun _ => False) rfl rfl ?aO ?aR (fun _ _ h => h) (fun _ h => h.elim) ?aF ?aB ?aS ?aL ?_
   (case aR => exact rs HO320)
   (case aB => exact (bw HB))
   (case aF => exact (fun k_ hk => ⟨Kd.fresh' (Kd.R_lt (ro HO320)) k_ hk, Kd.freshB (bk BK2) k_ hk⟩))
   (case aO => exact (ro HO317))
   (case aS => exact (below_size (bw HB)))
   (case aL => have := LMc4.out; omega)
   intro v322 w39 ho hb hg hat
   rw [← Ny321.out] at ho
   replace BK1 := Aside0.mk (blk_grown (bk BK1) hg (Kd.R_ne HO317.out BK1.out (by decide)))
   replace BK2 := Aside0.mk (blk_grown (bk BK2) hg (Kd.R_away HO317.out (fun _ hk => hk.2)))
   replace BK3 := Aside0.mk (blk_grown (bk BK3) hg (Kd.R_ne HO317.out BK3.out (by decide)))
   replace HO320 := Aside0.mk (Kd.R_after (ok := (fun k_ => k_ ≠ gb2)) (by (with_reducible repeat (first | apply Kd.R_alloc | apply Kd.R_drewN | apply Kd.R_drew)); exact Kd.R_mono HO320.out (fun _ hk => ⟨hk.2, hk.1⟩)) hg hat)
   replace BK4 := Aside0.mk (blk_grown (bk BK4) hg (Kd.R_ne HO317.out BK4.out (by decide)))
   replace HB := Aside0.mk (hb)
   have HO323 := Aside0.mk (ho)
   clear HO317
   clear ho hb hg hat
   obtain ⟨Ao41, co41, eo41⟩ := Kd.R_slice HO323.out
   (first | subst eo41 | (injection eo41 with f1_ f2_ f3_; have f4_ := f1_.symm; have f5_ := f3_.symm; clear f1_ f2_ f3_; subst f4_; subst f5_))
   refine hK.out _ _ ⟨bc BK1 0, bc BK2 0, bc BK2 1, bc BK2 2⟩ (fun hHeld => ?_)
   clear hK K
   refine normK (N := some 12) (h := ?_)
   refine pureK HT_ 6 (some 13) ?_
   exact norm_ (by first | (simp only [putAll, Act.put, List.setIfInBounds_toArray, List.set_cons_zero, List.set_cons_succ]; done) | (simp only [putAll, Act.put, List.setIfInBounds_toArray, List.set_cons_zero, List.set_cons_succ]; rfl)) (hJ2_4_5_7 (v316, .slice Ao40 y318.length co40, .slice Ao41 y321.length co41, gb4) _ ⟨hHeld, (by (with_reducible repeat (first | apply Kd.R_alloc | apply Kd.R_drewN | apply Kd.R_drew)); exact Kd.R_mono HO320.out (fun _ hk => ⟨hk.2, hk.1⟩)), (ro HO323), (bk BK1), (bk BK2), (bk BK3), (bk BK4), GW4.out, GE4.out, NB1_4.out, NB4_1.out, NB2_4.out, NB4_2.out, NB3_4.out, NB4_3.out, (bw HB)⟩)
  intro hJ2_4_7
  refine join_ (σ := Value × Value) 4 #[true, true, true, true, true, false, false, false, false] (fun s_ => [(9, s_.1), (11, s_.2)]) (fun s_ w' => (w'.cell? ⟨gb1, 0, none⟩ = some (.slice A0_0 l0_0.length c0_0) ∧ w'.cell? ⟨gb2, 0, none⟩ = some (.int .i64 a1_0) ∧ w'.cell? ⟨gb2, 1, none⟩ = some (.int .i64 a1_1) ∧ w'.cell? ⟨gb2, 2, none⟩ = some (.int .i64 a1_2)) ∧ (Kd.R k28 28 w' w.heap.size (fun k_ => some k_ ≠ (s_.2 : Value).ownBlock ∧ k_ ≠ gb2) s_.1 t315) ∧ (Kd.R k28 28 w' w.heap.size (fun k_ => some k_ ≠ (s_.1 : Value).ownBlock ∧ k_ ≠ gb2) s_.2 y318) ∧ (w'.heap[gb1]? = some (.cells #[.slice A0_0 l0_0.length c0_0] 26 (0, 0))) ∧ (w'.heap[gb2]? = some (.cells #[.int .i64 a1_0, .int .i64 a1_1, .int .i64 a1_2] 28 (0, 0))) ∧ (w'.heap[gb3]? = some (.cells #[.slice none 0 0] 26 (0, 0))) ∧ (Below w.heap.size w w')) ?_ ?_
  rotate_left
  rotate_left
  ·
   skip
   rintro ⟨v316, v319⟩ w37 ⟨hS_, h0_, h1_, h2_, h3_, h4_, h5_⟩
   have n0_ : Aside0 (Kd.R k28 28 w37 w.heap.size (fun k_ => some k_ ≠ (v319 : Value).ownBlock ∧ k_ ≠ gb2) v316 t315) := ⟨h0_⟩
   have n1_ : Aside0 (Kd.R k28 28 w37 w.heap.size (fun k_ => some k_ ≠ (v316 : Value).ownBlock ∧ k_ ≠ gb2) v319 y318) := ⟨h1_⟩
   have n2_ : Aside0 (w37.heap[gb1]? = some (.cells #[.slice A0_0 l0_0.length c0_0] 26 (0, 0))) := ⟨h2_⟩
   have n3_ : Aside0 (w37.heap[gb2]? = some (.cells #[.int .i64 a1_0, .int .i64 a1_1, .int .i64 a1_2] 28 (0, 0))) := ⟨h3_⟩
   have n4_ : Aside0 (w37.heap[gb3]? = some (.cells #[.slice none 0 0] 26 (0, 0))) := ⟨h4_⟩
   have n5_ : Aside0 (Below w.heap.size w w37) := ⟨h5_⟩
   clear BK1
   clear BK2
   clear BK3
   clear HB
   clear h0_ h1_ h2_ h3_ h4_ h5_
   have HO317 := n0_
   have HO320 := n1_
   have BK1 := n2_
   have BK2 := n3_
   have BK3 := n4_
   have HB := n5_
   clear n0_ n1_ n2_ n3_ n4_ n5_
   have hHeld : w37.cell? ⟨gb1, 0, none⟩ = some (.slice A0_0 l0_0.length c0_0) ∧ w37.cell? ⟨gb2, 0, none⟩ = some (.int .i64 a1_0) ∧ w37.cell? ⟨gb2, 1, none⟩ = some (.int .i64 a1_1) ∧ w37.cell? ⟨gb2, 2, none⟩ = some (.int .i64 a1_2) := hS_
   obtain ⟨Ao39, co39, eo39⟩ := Kd.R_slice HO320.out
   (first | subst eo39 | (injection eo39 with f1_ f2_ f3_; have f4_ := f1_.symm; have f5_ := f3_.symm; clear f1_ f2_ f3_; subst f4_; subst f5_))
   refine norm_ (a' := ?_) ?_ ?_
   rotate_left
   ·
    simp only [putAll, Act.put, List.setIfInBounds_toArray, List.set_cons_zero, List.set_cons_succ]
    rfl
   refine two_ (i := 5) (j := 7) (Ni := some 12) (Nj := some 6) #[true, true, true, true, true, true, false, false, false] #[true, true, true, true, true, false, false, true, false] rfl rfl rfl rfl (two_of HT_.out (by kernel_rfl)) (by decide) (by decide) (fun K hK => ?_) (fun K hK => ?_)
   rotate_left
   ·
    skip
    refine box_step ?hg (N := 6) ?hd (cs := #[.slice none 0 0]) (t := 26) ?hr ?_; (case hd => rfl); (case hg => rfl); (case hr => first | (go_simp; done) | (go_simp; rfl))
    intro gb4 hg w38 hbox hb
    replace HO317 := ko HO317 hb
    replace HO320 := ko HO320 hb
    have BK4 := Aside0.mk (hbox)
    have GW4 := gw HB hg
    have GE4 := gw HB hg
    replace HB := kw HB hb
    obtain ⟨NB1_4, NB4_1, NB2_4, NB4_2, NB3_4, NB4_3⟩ := nv3 hg BK1 BK2 BK3
    refine mv3 hb BK1 BK2 BK3 ?_
    clear BK1 BK2 BK3
    intro BK1 BK2 BK3
    clear hb hbox hg
    refine hK.out _ _ ⟨bc BK1 0, bc BK2 0, bc BK2 1, bc BK2 2⟩ (fun hHeld => ?_)
    clear hK K
    refine normK (N := some 6) (h := ?_)
    exact norm_ (by first | (simp only [putAll, Act.put, List.setIfInBounds_toArray, List.set_cons_zero, List.set_cons_succ]; done) | (simp only [putAll, Act.put, List.setIfInBounds_toArray, List.set_cons_zero, List.set_cons_succ]; rfl)) (hJ2_4_7 (v316, (.slice Ao39 y318.length co39), gb4) _ ⟨hHeld, (ro HO317), (ro HO320), (bk BK1), (bk BK2), (bk BK3), (bk BK4), GW4.out, GE4.out, NB1_4.out, NB4_1.out, NB2_4.out, NB4_2.out, NB3_4.out, NB4_3.out, (bw HB)⟩)
   skip
   refine Kd.R_append_rows_step k28 (w0 := w) w.heap.size (by rfl) (.tmp 9) (.tmp 11) 24 28 (.agg #[(.int .i64 0), (.int .i64 0), (.int .i64 0)]) 24 rfl Try.underlying24 info28 rfl (by decide) (by omega) v316 t315 y318 _ _ _ (fun k_ => some k_ ≠ (.slice Ao39 y318.length co39 : Value).ownBlock ∧ k_ ≠ gb2) (fun _ => False) rfl rfl ?aO ?aR (fun _ _ h => h) (fun _ h => h.elim) ?aF ?aB ?aS ?aL ?_
   (case aR => exact rs HO320)
   (case aB => exact (bw HB))
   (case aF => exact (fun k_ hk => ⟨Kd.fresh' (Kd.R_lt (ro HO320)) k_ hk, Kd.freshB (bk BK2) k_ hk⟩))
   (case aO => exact (ro HO317))
   (case aS => exact (below_size (bw HB)))
   (case aL => have := LMc4.out; omega)
   intro v322 w38 ho hb hg hat
   rw [← Ny321.out] at ho
   replace BK1 := Aside0.mk (blk_grown (bk BK1) hg (Kd.R_ne HO317.out BK1.out (by decide)))
   replace BK2 := Aside0.mk (blk_grown (bk BK2) hg (Kd.R_away HO317.out (fun _ hk => hk.2)))
   replace BK3 := Aside0.mk (blk_grown (bk BK3) hg (Kd.R_ne HO317.out BK3.out (by decide)))
   replace HO320 := Aside0.mk (Kd.R_after (ok := (fun k_ => k_ ≠ gb2)) (by (with_reducible repeat (first | apply Kd.R_alloc | apply Kd.R_drewN | apply Kd.R_drew)); exact Kd.R_mono HO320.out (fun _ hk => ⟨hk.2, hk.1⟩)) hg hat)
   replace HB := Aside0.mk (hb)
   have HO323 := Aside0.mk (ho)
   clear HO317
   clear ho hb hg hat
   obtain ⟨Ao40, co40, eo40⟩ := Kd.R_slice HO323.out
   (first | subst eo40 | (injection eo40 with f1_ f2_ f3_; have f4_ := f1_.symm; have f5_ := f3_.symm; clear f1_ f2_ f3_; subst f4_; subst f5_))
   refine hK.out _ _ ⟨bc BK1 0, bc BK2 0, bc BK2 1, bc BK2 2⟩ (fun hHeld => ?_)
   clear hK K
   refine normK (N := some 12) (h := ?_)
   refine pureK HT_ 6 (some 13) ?_
   exact norm_ (by first | (simp only [putAll, Act.put, List.setIfInBounds_toArray, List.set_cons_zero, List.set_cons_succ]; done) | (simp only [putAll, Act.put, List.setIfInBounds_toArray, List.set_cons_zero, List.set_cons_succ]; rfl)) (hJ2_4_5 (v316, .slice Ao39 y318.length co39, .slice Ao40 y321.length co40) _ ⟨hHeld, (by (with_reducible repeat (first | apply Kd.R_alloc | apply Kd.R_drewN | apply Kd.R_drew)); exact Kd.R_mono HO320.out (fun _ hk => ⟨hk.2, hk.1⟩)), (ro HO323), (bk BK1), (bk BK2), (bk BK3), (bw HB)⟩)
  intro hJ2_4
  refine join_ (σ := Value × Nat) 4 #[true, true, true, true, false, false, false, true, false] (fun s_ => [(9, s_.1), (6, .pointer (some ⟨s_.2, 0, none⟩))]) (fun s_ w' => (w'.cell? ⟨gb1, 0, none⟩ = some (.slice A0_0 l0_0.length c0_0) ∧ w'.cell? ⟨gb2, 0, none⟩ = some (.int .i64 a1_0) ∧ w'.cell? ⟨gb2, 1, none⟩ = some (.int .i64 a1_1) ∧ w'.cell? ⟨gb2, 2, none⟩ = some (.int .i64 a1_2)) ∧ (Kd.R k28 28 w' w.heap.size (fun k_ => k_ ≠ gb2) s_.1 t315) ∧ (w'.heap[gb1]? = some (.cells #[.slice A0_0 l0_0.length c0_0] 26 (0, 0))) ∧ (w'.heap[gb2]? = some (.cells #[.int .i64 a1_0, .int .i64 a1_1, .int .i64 a1_2] 28 (0, 0))) ∧ (w'.heap[gb3]? = some (.cells #[.slice none 0 0] 26 (0, 0))) ∧ (w'.heap[s_.2]? = some (.cells #[.slice none 0 0] 26 (0, 0))) ∧ (w.heap.size ≤ s_.2) ∧ (w.heap.size ≤ s_.2) ∧ (gb1 ≠ s_.2) ∧ (s_.2 ≠ gb1) ∧ (gb2 ≠ s_.2) ∧ (s_.2 ≠ gb2) ∧ (gb3 ≠ s_.2) ∧ (s_.2 ≠ gb3) ∧ (Below w.heap.size w w')) ?_ ?_
  rotate_left
  rotate_left
  ·
   skip
   rintro ⟨v316, gb4⟩ w36 ⟨hS_, h0_, h1_, h2_, h3_, h4_, h5_, h6_, h7_, h8_, h9_, h10_, h11_, h12_, h13_⟩
   have n0_ : Aside0 (Kd.R k28 28 w36 w.heap.size (fun k_ => k_ ≠ gb2) v316 t315) := ⟨h0_⟩
   have n1_ : Aside0 (w36.heap[gb1]? = some (.cells #[.slice A0_0 l0_0.length c0_0] 26 (0, 0))) := ⟨h1_⟩
   have n2_ : Aside0 (w36.heap[gb2]? = some (.cells #[.int .i64 a1_0, .int .i64 a1_1, .int .i64 a1_2] 28 (0, 0))) := ⟨h2_⟩
   have n3_ : Aside0 (w36.heap[gb3]? = some (.cells #[.slice none 0 0] 26 (0, 0))) := ⟨h3_⟩
   have n4_ : Aside0 (w36.heap[gb4]? = some (.cells #[.slice none 0 0] 26 (0, 0))) := ⟨h4_⟩
   have n5_ : Aside0 (w.heap.size ≤ gb4) := ⟨h5_⟩
   have n6_ : Aside0 (w.heap.size ≤ gb4) := ⟨h6_⟩
   have n7_ : Aside0 (gb1 ≠ gb4) := ⟨h7_⟩
   have n8_ : Aside0 (gb4 ≠ gb1) := ⟨h8_⟩
   have n9_ : Aside0 (gb2 ≠ gb4) := ⟨h9_⟩
   have n10_ : Aside0 (gb4 ≠ gb2) := ⟨h10_⟩
   have n11_ : Aside0 (gb3 ≠ gb4) := ⟨h11_⟩
   have n12_ : Aside0 (gb4 ≠ gb3) := ⟨h12_⟩
   have n13_ : Aside0 (Below w.heap.size w w36) := ⟨h13_⟩
   clear BK1
   clear BK2
   clear BK3
   clear HB
   clear h0_ h1_ h2_ h3_ h4_ h5_ h6_ h7_ h8_ h9_ h10_ h11_ h12_ h13_
   have HO317 := n0_
   have BK1 := n1_
   have BK2 := n2_
   have BK3 := n3_
   have BK4 := n4_
   have GW4 := n5_
   have GE4 := n6_
   have NB1_4 := n7_
   have NB4_1 := n8_
   have NB2_4 := n9_
   have NB4_2 := n10_
   have NB3_4 := n11_
   have NB4_3 := n12_
   have HB := n13_
   clear n0_ n1_ n2_ n3_ n4_ n5_ n6_ n7_ n8_ n9_ n10_ n11_ n12_ n13_
   have hHeld : w36.cell? ⟨gb1, 0, none⟩ = some (.slice A0_0 l0_0.length c0_0) ∧ w36.cell? ⟨gb2, 0, none⟩ = some (.int .i64 a1_0) ∧ w36.cell? ⟨gb2, 1, none⟩ = some (.int .i64 a1_1) ∧ w36.cell? ⟨gb2, 2, none⟩ = some (.int .i64 a1_2) := hS_
   refine norm_ (a' := ?_) ?_ ?_
   rotate_left
   ·
    simp only [putAll, Act.put, List.setIfInBounds_toArray, List.set_cons_zero, List.set_cons_succ]
    rfl
   refine oneK HT_ 4 (some 11) (fun K hK => ?_)
   refine Kd.R_lit_step k28 _ 28 ?hg (N := 11) ?hd (xs := ([(⟨a1_0, a1_1, a1_2⟩ : S28)] : List (S28))) (inner := [.int .i64 a1_0, .int .i64 a1_1, .int .i64 a1_2]) (ok := fun _ => True) (okp := fun _ => True) ?hr ?hp (fun _ hk => hk) trivial (Below.refl _ _) (Nat.le_refl _) (by simp) ?_; (case hd => rfl); (case hg => rfl); (case hr => first | (go_simp; done) | (go_simp; rfl)); (case hp => exact (Reps.c3 (show Kd.M k28 _ _ _ (⟨a1_0, a1_1, a1_2⟩ : S28) [.int .i64 a1_0, .int .i64 a1_1, .int .i64 a1_2] from (k28_mkM _ _ _ (⟨a1_0, a1_1, a1_2⟩ : S28) )) (Reps.none _ _)))
   intro v319 w37 ho38 hb hg_ hnew_
   clear hg_ hnew_
   (first | rw [← Ny318.out] at ho38 | (simp only [Int.reduceToNat] at ho38; rw [← Ny318.out] at ho38))
   have HO320 := Aside0.mk (Kd.R_lower (Kd.R_newB (Kd.R_new' ho38 (Kd.R_lt (ro HO317))) (bk BK2)) (below_size (bw HB)))
   replace HO317 := Aside0.mk (Kd.R_elder' (ro HO317) (Kd.R_base ho38) hb)
   refine mv4 hb BK1 BK2 BK3 BK4 ?_
   clear BK1 BK2 BK3 BK4
   intro BK1 BK2 BK3 BK4
   replace HB := kw HB hb
   clear hb ho38
   refine hK.out _ _ ⟨bc BK1 0, bc BK2 0, bc BK2 1, bc BK2 2⟩ (fun hHeld => ?_)
   clear hK K
   refine normK (N := some 11) (h := ?_)
   exact norm_ (by first | (simp only [putAll, Act.put, List.setIfInBounds_toArray, List.set_cons_zero, List.set_cons_succ]; done) | (simp only [putAll, Act.put, List.setIfInBounds_toArray, List.set_cons_zero, List.set_cons_succ]; rfl)) (hJ2_4_7 (v316, v319, gb4) _ ⟨hHeld, (by (with_reducible repeat (first | apply Kd.R_alloc | apply Kd.R_drewN | apply Kd.R_drew)); exact Kd.R_mono HO317.out (fun _ hk => ⟨hk.2, hk.1⟩)), (by (with_reducible repeat (first | apply Kd.R_alloc | apply Kd.R_drewN | apply Kd.R_drew)); exact Kd.R_mono HO320.out (fun _ hk => ⟨hk.1.2, hk.2⟩)), (bk BK1), (bk BK2), (bk BK3), (bk BK4), GW4.out, GE4.out, NB1_4.out, NB4_1.out, NB2_4.out, NB4_2.out, NB3_4.out, NB4_3.out, (bw HB)⟩)
  intro hJ2_7
  refine join_ (σ := Value × Nat) 4 #[true, true, false, true, true, false, false, true, false] (fun s_ => [(11, s_.1), (6, .pointer (some ⟨s_.2, 0, none⟩))]) (fun s_ w' => (w'.cell? ⟨gb1, 0, none⟩ = some (.slice A0_0 l0_0.length c0_0) ∧ w'.cell? ⟨gb2, 0, none⟩ = some (.int .i64 a1_0) ∧ w'.cell? ⟨gb2, 1, none⟩ = some (.int .i64 a1_1) ∧ w'.cell? ⟨gb2, 2, none⟩ = some (.int .i64 a1_2)) ∧ (Kd.R k28 28 w' w.heap.size (fun k_ => k_ ≠ gb2) s_.1 y318) ∧ (w'.heap[gb1]? = some (.cells #[.slice A0_0 l0_0.length c0_0] 26 (0, 0))) ∧ (w'.heap[gb2]? = some (.cells #[.int .i64 a1_0, .int .i64 a1_1, .int .i64 a1_2] 28 (0, 0))) ∧ (w'.heap[gb3]? = some (.cells #[.slice none 0 0] 26 (0, 0))) ∧ (w'.heap[s_.2]? = some (.cells #[.slice none 0 0] 26 (0, 0))) ∧ (w.heap.size ≤ s_.2) ∧ (w.heap.size ≤ s_.2) ∧ (gb1 ≠ s_.2) ∧ (s_.2 ≠ gb1) ∧ (gb2 ≠ s_.2) ∧ (s_.2 ≠ gb2) ∧ (gb3 ≠ s_.2) ∧ (s_.2 ≠ gb3) ∧ (Below w.heap.size w w')) ?_ ?_
  rotate_left
  rotate_left
  ·
   skip
   rintro ⟨v319, gb4⟩ w37 ⟨hS_, h0_, h1_, h2_, h3_, h4_, h5_, h6_, h7_, h8_, h9_, h10_, h11_, h12_, h13_⟩
   have n0_ : Aside0 (Kd.R k28 28 w37 w.heap.size (fun k_ => k_ ≠ gb2) v319 y318) := ⟨h0_⟩
   have n1_ : Aside0 (w37.heap[gb1]? = some (.cells #[.slice A0_0 l0_0.length c0_0] 26 (0, 0))) := ⟨h1_⟩
   have n2_ : Aside0 (w37.heap[gb2]? = some (.cells #[.int .i64 a1_0, .int .i64 a1_1, .int .i64 a1_2] 28 (0, 0))) := ⟨h2_⟩
   have n3_ : Aside0 (w37.heap[gb3]? = some (.cells #[.slice none 0 0] 26 (0, 0))) := ⟨h3_⟩
   have n4_ : Aside0 (w37.heap[gb4]? = some (.cells #[.slice none 0 0] 26 (0, 0))) := ⟨h4_⟩
   have n5_ : Aside0 (w.heap.size ≤ gb4) := ⟨h5_⟩
   have n6_ : Aside0 (w.heap.size ≤ gb4) := ⟨h6_⟩
   have n7_ : Aside0 (gb1 ≠ gb4) := ⟨h7_⟩
   have n8_ : Aside0 (gb4 ≠ gb1) := ⟨h8_⟩
   have n9_ : Aside0 (gb2 ≠ gb4) := ⟨h9_⟩
   have n10_ : Aside0 (gb4 ≠ gb2) := ⟨h10_⟩
   have n11_ : Aside0 (gb3 ≠ gb4) := ⟨h11_⟩
   have n12_ : Aside0 (gb4 ≠ gb3) := ⟨h12_⟩
   have n13_ : Aside0 (Below w.heap.size w w37) := ⟨h13_⟩
   clear BK1
   clear BK2
   clear BK3
   clear HB
   clear h0_ h1_ h2_ h3_ h4_ h5_ h6_ h7_ h8_ h9_ h10_ h11_ h12_ h13_
   have HO320 := n0_
   have BK1 := n1_
   have BK2 := n2_
   have BK3 := n3_
   have BK4 := n4_
   have GW4 := n5_
   have GE4 := n6_
   have NB1_4 := n7_
   have NB4_1 := n8_
   have NB2_4 := n9_
   have NB4_2 := n10_
   have NB3_4 := n11_
   have NB4_3 := n12_
   have HB := n13_
   clear n0_ n1_ n2_ n3_ n4_ n5_ n6_ n7_ n8_ n9_ n10_ n11_ n12_ n13_
   have hHeld : w37.cell? ⟨gb1, 0, none⟩ = some (.slice A0_0 l0_0.length c0_0) ∧ w37.cell? ⟨gb2, 0, none⟩ = some (.int .i64 a1_0) ∧ w37.cell? ⟨gb2, 1, none⟩ = some (.int .i64 a1_1) ∧ w37.cell? ⟨gb2, 2, none⟩ = some (.int .i64 a1_2) := hS_
   refine norm_ (a' := ?_) ?_ ?_
   rotate_left
   ·
    simp only [putAll, Act.put, List.setIfInBounds_toArray, List.set_cons_zero, List.set_cons_succ]
    rfl
   refine oneK HT_ 2 (some 9) (fun K hK => ?_)
   refine goes_ Try.func47 (by kernel_rfl) rfl #[.slice A0_0 l0_0.length c0_0] (by rfl) rfl rfl argR ?_
   with_reducible refine (impl_Clue_47.calls _ _ l0_0 t315 _ ?side1 ?side2 A3.out).mono ?_
   (case side1 => exact cb HR0_0 HB)
   (case side2 => exact HC0_0.out)
   rintro e w38 ⟨v316, rfl, ho0, hb⟩
   refine ⟨_, rfl, ?_⟩
   have HO317 := Aside0.mk (Kd.R_lower (Kd.R_newB (Kd.R_new' ho0 (Kd.R_lt (ro HO320))) (bk BK2)) (below_size (bw HB)))
   replace HO320 := Aside0.mk (Kd.R_elder' (ro HO320) (Kd.R_base ho0) hb)
   refine mv4 hb BK1 BK2 BK3 BK4 ?_
   clear BK1 BK2 BK3 BK4
   intro BK1 BK2 BK3 BK4
   replace HB := kw HB hb
   (try clear hb)
   (try clear hb2)
   (try clear hk)
   (try clear hi)
   (try clear ho0)
   refine hK.out _ _ ⟨bc BK1 0, bc BK2 0, bc BK2 1, bc BK2 2⟩ (fun hHeld => ?_)
   clear hK K
   refine normK (N := some 9) (h := ?_)
   exact norm_ (by first | (simp only [putAll, Act.put, List.setIfInBounds_toArray, List.set_cons_zero, List.set_cons_succ]; done) | (simp only [putAll, Act.put, List.setIfInBounds_toArray, List.set_cons_zero, List.set_cons_succ]; rfl)) (hJ2_4_7 (v316, v319, gb4) _ ⟨hHeld, (by (with_reducible repeat (first | apply Kd.R_alloc | apply Kd.R_drewN | apply Kd.R_drew)); exact Kd.R_mono HO317.out (fun _ hk => ⟨hk.1.2, hk.2⟩)), (by (with_reducible repeat (first | apply Kd.R_alloc | apply Kd.R_drewN | apply Kd.R_drew)); exact Kd.R_mono HO320.out (fun _ hk => ⟨hk.2, hk.1⟩)), (bk BK1), (bk BK2), (bk BK3), (bk BK4), GW4.out, GE4.out, NB1_4.out, NB4_1.out, NB2_4.out, NB4_2.out, NB3_4.out, NB4_3.out, (bw HB)⟩)
  intro hJ4_7
  refine join_ (σ := Value) 5 #[true, true, true, true, false, false, false, false, false] (fun s_ => [(9, s_)]) (fun s_ w' => (w'.cell? ⟨gb1, 0, none⟩ = some (.slice A0_0 l0_0.length c0_0) ∧ w'.cell? ⟨gb2, 0, none⟩ = some (.int .i64 a1_0) ∧ w'.cell? ⟨gb2, 1, none⟩ = some (.int .i64 a1_1) ∧ w'.cell? ⟨gb2, 2, none⟩ = some (.int .i64 a1_2)) ∧ (Kd.R k28 28 w' w.heap.size (fun k_ => k_ ≠ gb2) s_ t315) ∧ (w'.heap[gb1]? = some (.cells #[.slice A0_0 l0_0.length c0_0] 26 (0, 0))) ∧ (w'.heap[gb2]? = some (.cells #[.int .i64 a1_0, .int .i64 a1_1, .int .i64 a1_2] 28 (0, 0))) ∧ (w'.heap[gb3]? = some (.cells #[.slice none 0 0] 26 (0, 0))) ∧ (Below w.heap.size w w')) ?_ ?_
  rotate_left
  rotate_left
  ·
   skip
   rintro v316 w35 ⟨hS_, h0_, h1_, h2_, h3_, h4_⟩
   have n0_ : Aside0 (Kd.R k28 28 w35 w.heap.size (fun k_ => k_ ≠ gb2) v316 t315) := ⟨h0_⟩
   have n1_ : Aside0 (w35.heap[gb1]? = some (.cells #[.slice A0_0 l0_0.length c0_0] 26 (0, 0))) := ⟨h1_⟩
   have n2_ : Aside0 (w35.heap[gb2]? = some (.cells #[.int .i64 a1_0, .int .i64 a1_1, .int .i64 a1_2] 28 (0, 0))) := ⟨h2_⟩
   have n3_ : Aside0 (w35.heap[gb3]? = some (.cells #[.slice none 0 0] 26 (0, 0))) := ⟨h3_⟩
   have n4_ : Aside0 (Below w.heap.size w w35) := ⟨h4_⟩
   clear BK1
   clear BK2
   clear BK3
   clear HB
   clear h0_ h1_ h2_ h3_ h4_
   have HO317 := n0_
   have BK1 := n1_
   have BK2 := n2_
   have BK3 := n3_
   have HB := n4_
   clear n0_ n1_ n2_ n3_ n4_
   have hHeld : w35.cell? ⟨gb1, 0, none⟩ = some (.slice A0_0 l0_0.length c0_0) ∧ w35.cell? ⟨gb2, 0, none⟩ = some (.int .i64 a1_0) ∧ w35.cell? ⟨gb2, 1, none⟩ = some (.int .i64 a1_1) ∧ w35.cell? ⟨gb2, 2, none⟩ = some (.int .i64 a1_2) := hS_
   refine norm_ (a' := ?_) ?_ ?_
   rotate_left
   ·
    simp only [putAll, Act.put, List.setIfInBounds_toArray, List.set_cons_zero, List.set_cons_succ]
    rfl
   refine two_ (i := 4) (j := 7) (Ni := some 11) (Nj := some 6) #[true, true, true, true, true, false, false, false, false] #[true, true, true, true, false, false, false, true, false] rfl rfl rfl rfl (two_of HT_.out (by kernel_rfl)) (by decide) (by decide) (fun K hK => ?_) (fun K hK => ?_)
   ·
    skip
    refine Kd.R_lit_step k28 _ 28 ?hg (N := 11) ?hd (xs := ([(⟨a1_0, a1_1, a1_2⟩ : S28)] : List (S28))) (inner := [.int .i64 a1_0, .int .i64 a1_1, .int .i64 a1_2]) (ok := fun _ => True) (okp := fun _ => True) ?hr ?hp (fun _ hk => hk) trivial (Below.refl _ _) (Nat.le_refl _) (by simp) ?_; (case hd => rfl); (case hg => rfl); (case hr => first | (go_simp; done) | (go_simp; rfl)); (case hp => exact (Reps.c3 (show Kd.M k28 _ _ _ (⟨a1_0, a1_1, a1_2⟩ : S28) [.int .i64 a1_0, .int .i64 a1_1, .int .i64 a1_2] from (k28_mkM _ _ _ (⟨a1_0, a1_1, a1_2⟩ : S28) )) (Reps.none _ _)))
    intro v319 w36 ho37 hb hg_ hnew_
    clear hg_ hnew_
    (first | rw [← Ny318.out] at ho37 | (simp only [Int.reduceToNat] at ho37; rw [← Ny318.out] at ho37))
    have HO320 := Aside0.mk (Kd.R_lower (Kd.R_newB (Kd.R_new' ho37 (Kd.R_lt (ro HO317))) (bk BK2)) (below_size (bw HB)))
    replace HO317 := Aside0.mk (Kd.R_elder' (ro HO317) (Kd.R_base ho37) hb)
    refine mv3 hb BK1 BK2 BK3 ?_
    clear BK1 BK2 BK3
    intro BK1 BK2 BK3
    replace HB := kw HB hb
    clear hb ho37
    refine hK.out _ _ ⟨bc BK1 0, bc BK2 0, bc BK2 1, bc BK2 2⟩ (fun hHeld => ?_)
    clear hK K
    refine normK (N := some 11) (h := ?_)
    exact norm_ (by first | (simp only [putAll, Act.put, List.setIfInBounds_toArray, List.set_cons_zero, List.set_cons_succ]; done) | (simp only [putAll, Act.put, List.setIfInBounds_toArray, List.set_cons_zero, List.set_cons_succ]; rfl)) (hJ2_4 (v316, v319) _ ⟨hHeld, (by (with_reducible repeat (first | apply Kd.R_alloc | apply Kd.R_drewN | apply Kd.R_drew)); exact Kd.R_mono HO317.out (fun _ hk => ⟨hk.2, hk.1⟩)), (by (with_reducible repeat (first | apply Kd.R_alloc | apply Kd.R_drewN | apply Kd.R_drew)); exact Kd.R_mono HO320.out (fun _ hk => ⟨hk.1.2, hk.2⟩)), (bk BK1), (bk BK2), (bk BK3), (bw HB)⟩)
   skip
   refine box_step ?hg (N := 6) ?hd (cs := #[.slice none 0 0]) (t := 26) ?hr ?_; (case hd => rfl); (case hg => rfl); (case hr => first | (go_simp; done) | (go_simp; rfl))
   intro gb4 hg w36 hbox hb
   replace HO317 := ko HO317 hb
   have BK4 := Aside0.mk (hbox)
   have GW4 := gw HB hg
   have GE4 := gw HB hg
   replace HB := kw HB hb
   obtain ⟨NB1_4, NB4_1, NB2_4, NB4_2, NB3_4, NB4_3⟩ := nv3 hg BK1 BK2 BK3
   refine mv3 hb BK1 BK2 BK3 ?_
   clear BK1 BK2 BK3
   intro BK1 BK2 BK3
   clear hb hbox hg
   refine hK.out _ _ ⟨bc BK1 0, bc BK2 0, bc BK2 1, bc BK2 2⟩ (fun hHeld => ?_)
   clear hK K
   refine normK (N := some 6) (h := ?_)
   exact norm_ (by first | (simp only [putAll, Act.put, List.setIfInBounds_toArray, List.set_cons_zero, List.set_cons_succ]; done) | (simp only [putAll, Act.put, List.setIfInBounds_toArray, List.set_cons_zero, List.set_cons_succ]; rfl)) (hJ2_7 (v316, gb4) _ ⟨hHeld, (ro HO317), (bk BK1), (bk BK2), (bk BK3), (bk BK4), GW4.out, GE4.out, NB1_4.out, NB4_1.out, NB2_4.out, NB4_2.out, NB3_4.out, NB4_3.out, (bw HB)⟩)
  intro hJ2
  refine join_ (σ := Value) 5 #[true, true, false, true, true, false, false, false, false] (fun s_ => [(11, s_)]) (fun s_ w' => (w'.cell? ⟨gb1, 0, none⟩ = some (.slice A0_0 l0_0.length c0_0) ∧ w'.cell? ⟨gb2, 0, none⟩ = some (.int .i64 a1_0) ∧ w'.cell? ⟨gb2, 1, none⟩ = some (.int .i64 a1_1) ∧ w'.cell? ⟨gb2, 2, none⟩ = some (.int .i64 a1_2)) ∧ (Kd.R k28 28 w' w.heap.size (fun k_ => k_ ≠ gb2) s_ y318) ∧ (w'.heap[gb1]? = some (.cells #[.slice A0_0 l0_0.length c0_0] 26 (0, 0))) ∧ (w'.heap[gb2]? = some (.cells #[.int .i64 a1_0, .int .i64 a1_1, .int .i64 a1_2] 28 (0, 0))) ∧ (w'.heap[gb3]? = some (.cells #[.slice none 0 0] 26 (0, 0))) ∧ (Below w.heap.size w w')) ?_ ?_
  rotate_left
  rotate_left
  ·
   skip
   rintro v319 w36 ⟨hS_, h0_, h1_, h2_, h3_, h4_⟩
   have n0_ : Aside0 (Kd.R k28 28 w36 w.heap.size (fun k_ => k_ ≠ gb2) v319 y318) := ⟨h0_⟩
   have n1_ : Aside0 (w36.heap[gb1]? = some (.cells #[.slice A0_0 l0_0.length c0_0] 26 (0, 0))) := ⟨h1_⟩
   have n2_ : Aside0 (w36.heap[gb2]? = some (.cells #[.int .i64 a1_0, .int .i64 a1_1, .int .i64 a1_2] 28 (0, 0))) := ⟨h2_⟩
   have n3_ : Aside0 (w36.heap[gb3]? = some (.cells #[.slice none 0 0] 26 (0, 0))) := ⟨h3_⟩
   have n4_ : Aside0 (Below w.heap.size w w36) := ⟨h4_⟩
   clear BK1
   clear BK2
   clear BK3
   clear HB
   clear h0_ h1_ h2_ h3_ h4_
   have HO320 := n0_
   have BK1 := n1_
   have BK2 := n2_
   have BK3 := n3_
   have HB := n4_
   clear n0_ n1_ n2_ n3_ n4_
   have hHeld : w36.cell? ⟨gb1, 0, none⟩ = some (.slice A0_0 l0_0.length c0_0) ∧ w36.cell? ⟨gb2, 0, none⟩ = some (.int .i64 a1_0) ∧ w36.cell? ⟨gb2, 1, none⟩ = some (.int .i64 a1_1) ∧ w36.cell? ⟨gb2, 2, none⟩ = some (.int .i64 a1_2) := hS_
   refine norm_ (a' := ?_) ?_ ?_
   rotate_left
   ·
    simp only [putAll, Act.put, List.setIfInBounds_toArray, List.set_cons_zero, List.set_cons_succ]
    rfl
   refine two_ (i := 2) (j := 7) (Ni := some 9) (Nj := some 6) #[true, true, true, true, true, false, false, false, false] #[true, true, false, true, true, false, false, true, false] rfl rfl rfl rfl (two_of HT_.out (by kernel_rfl)) (by decide) (by decide) (fun K hK => ?_) (fun K hK => ?_)
   rotate_left
   ·
    skip
    refine box_step ?hg (N := 6) ?hd (cs := #[.slice none 0 0]) (t := 26) ?hr ?_; (case hd => rfl); (case hg => rfl); (case hr => first | (go_simp; done) | (go_simp; rfl))
    intro gb4 hg w37 hbox hb
    replace HO320 := ko HO320 hb
    have BK4 := Aside0.mk (hbox)
    have GW4 := gw HB hg
    have GE4 := gw HB hg
    replace HB := kw HB hb
    obtain ⟨NB1_4, NB4_1, NB2_4, NB4_2, NB3_4, NB4_3⟩ := nv3 hg BK1 BK2 BK3
    refine mv3 hb BK1 BK2 BK3 ?_
    clear BK1 BK2 BK3
    intro BK1 BK2 BK3
    clear hb hbox hg
    refine hK.out _ _ ⟨bc BK1 0, bc BK2 0, bc BK2 1, bc BK2 2⟩ (fun hHeld => ?_)
    clear hK K
    refine normK (N := some 6) (h := ?_)
    exact norm_ (by first | (simp only [putAll, Act.put, List.setIfInBounds_toArray, List.set_cons_zero, List.set_cons_succ]; done) | (simp only [putAll, Act.put, List.setIfInBounds_toArray, List.set_cons_zero, List.set_cons_succ]; rfl)) (hJ4_7 (v319, gb4) _ ⟨hHeld, (ro HO320), (bk BK1), (bk BK2), (bk BK3), (bk BK4), GW4.out, GE4.out, NB1_4.out, NB4_1.out, NB2_4.out, NB4_2.out, NB3_4.out, NB4_3.out, (bw HB)⟩)
   skip
   refine goes_ Try.func47 (by kernel_rfl) rfl #[.slice A0_0 l0_0.length c0_0] (by rfl) rfl rfl argR ?_
   with_reducible refine (impl_Clue_47.calls _ _ l0_0 t315 _ ?side1 ?side2 A3.out).mono ?_
   (case side1 => exact cb HR0_0 HB)
   (case side2 => exact HC0_0.out)
   rintro e w37 ⟨v316, rfl, ho0, hb⟩
   refine ⟨_, rfl, ?_⟩
   have HO317 := Aside0.mk (Kd.R_lower (Kd.R_newB (Kd.R_new' ho0 (Kd.R_lt (ro HO320))) (bk BK2)) (below_size (bw HB)))
   replace HO320 := Aside0.mk (Kd.R_elder' (ro HO320) (Kd.R_base ho0) hb)
   refine mv3 hb BK1 BK2 BK3 ?_
   clear BK1 BK2 BK3
   intro BK1 BK2 BK3
   replace HB := kw HB hb
   (try clear hb)
   (try clear hb2)
   (try clear hk)
   (try clear hi)
   (try clear ho0)
   refine hK.out _ _ ⟨bc BK1 0, bc BK2 0, bc BK2 1, bc BK2 2⟩ (fun hHeld => ?_)
   clear hK K
   refine normK (N := some 9) (h := ?_)
   exact norm_ (by first | (simp only [putAll, Act.put, List.setIfInBounds_toArray, List.set_cons_zero, List.set_cons_succ]; done) | (simp only [putAll, Act.put, List.setIfInBounds_toArray, List.set_cons_zero, List.set_cons_succ]; rfl)) (hJ2_4 (v316, v319) _ ⟨hHeld, (by (with_reducible repeat (first | apply Kd.R_alloc | apply Kd.R_drewN | apply Kd.R_drew)); exact Kd.R_mono HO317.out (fun _ hk => ⟨hk.1.2, hk.2⟩)), (by (with_reducible repeat (first | apply Kd.R_alloc | apply Kd.R_drewN | apply Kd.R_drew)); exact Kd.R_mono HO320.out (fun _ hk => ⟨hk.2, hk.1⟩)), (bk BK1), (bk BK2), (bk BK3), (bw HB)⟩)
  intro hJ4
  refine join_ (σ := Nat) 5 #[true, true, false, true, false, false, false, true, false] (fun s_ => [(6, .pointer (some ⟨s_, 0, none⟩))]) (fun s_ w' => (w'.cell? ⟨gb1, 0, none⟩ = some (.slice A0_0 l0_0.length c0_0) ∧ w'.cell? ⟨gb2, 0, none⟩ = some (.int .i64 a1_0) ∧ w'.cell? ⟨gb2, 1, none⟩ = some (.int .i64 a1_1) ∧ w'.cell? ⟨gb2, 2, none⟩ = some (.int .i64 a1_2)) ∧ (w'.heap[gb1]? = some (.cells #[.slice A0_0 l0_0.length c0_0] 26 (0, 0))) ∧ (w'.heap[gb2]? = some (.cells #[.int .i64 a1_0, .int .i64 a1_1, .int .i64 a1_2] 28 (0, 0))) ∧ (w'.heap[gb3]? = some (.cells #[.slice none 0 0] 26 (0, 0))) ∧ (w'.heap[s_]? = some (.cells #[.slice none 0 0] 26 (0, 0))) ∧ (w.heap.size ≤ s_) ∧ (w.heap.size ≤ s_) ∧ (gb1 ≠ s_) ∧ (s_ ≠ gb1) ∧ (gb2 ≠ s_) ∧ (s_ ≠ gb2) ∧ (gb3 ≠ s_) ∧ (s_ ≠ gb3) ∧ (Below w.heap.size w w')) ?_ ?_
  rotate_left
  ·
   intro hJ7
   refine three_ (i := 2) (j := 4) (k := 7) (Ni := some 9) (Nj := some 11) (Nk := some 6) #[true, true, true, true, false, false, false, false, false] #[true, true, false, true, true, false, false, false, false] #[true, true, false, true, false, false, false, true, false] rfl rfl rfl rfl rfl rfl (three_of HT_.out (by kernel_rfl)) (by decide) (by decide) (by decide) (fun K hK => ?_) (fun K hK => ?_) (fun K hK => ?_)
   ·
    skip
    refine goes_ Try.func47 (by kernel_rfl) rfl #[.slice A0_0 l0_0.length c0_0] (by rfl) rfl rfl argR ?_
    with_reducible refine (impl_Clue_47.calls _ _ l0_0 t315 _ ?side1 ?side2 A3.out).mono ?_
    (case side1 => exact cb HR0_0 HB)
    (case side2 => exact HC0_0.out)
    rintro e w34 ⟨v316, rfl, ho0, hb⟩
    refine ⟨_, rfl, ?_⟩
    have HO317 := Aside0.mk (Kd.R_lower (Kd.R_newB ho0 (bk BK2)) (below_size (bw HB)))
    refine mv3 hb BK1 BK2 BK3 ?_
    clear BK1 BK2 BK3
    intro BK1 BK2 BK3
    replace HB := kw HB hb
    (try clear hb)
    (try clear hb2)
    (try clear hk)
    (try clear hi)
    (try clear ho0)
    refine hK.out _ _ ⟨bc BK1 0, bc BK2 0, bc BK2 1, bc BK2 2⟩ (fun hHeld => ?_)
    clear hK K
    refine normK (N := some 9) (h := ?_)
    exact norm_ (by first | (simp only [putAll, Act.put, List.setIfInBounds_toArray, List.set_cons_zero, List.set_cons_succ]; done) | (simp only [putAll, Act.put, List.setIfInBounds_toArray, List.set_cons_zero, List.set_cons_succ]; rfl)) (hJ2 (v316) _ ⟨hHeld, (by (with_reducible repeat (first | apply Kd.R_alloc | apply Kd.R_drewN | apply Kd.R_drew)); exact Kd.R_mono HO317.out (fun _ hk => hk.2)), (bk BK1), (bk BK2), (bk BK3), (bw HB)⟩)
   ·
    skip
    refine Kd.R_lit_step k28 _ 28 ?hg (N := 11) ?hd (xs := ([(⟨a1_0, a1_1, a1_2⟩ : S28)] : List (S28))) (inner := [.int .i64 a1_0, .int .i64 a1_1, .int .i64 a1_2]) (ok := fun _ => True) (okp := fun _ => True) ?hr ?hp (fun _ hk => hk) trivial (Below.refl _ _) (Nat.le_refl _) (by simp) ?_; (case hd => rfl); (case hg => rfl); (case hr => first | (go_simp; done) | (go_simp; rfl)); (case hp => exact (Reps.c3 (show Kd.M k28 _ _ _ (⟨a1_0, a1_1, a1_2⟩ : S28) [.int .i64 a1_0, .int .i64 a1_1, .int .i64 a1_2] from (k28_mkM _ _ _ (⟨a1_0, a1_1, a1_2⟩ : S28) )) (Reps.none _ _)))
    intro v319 w34 ho35 hb hg_ hnew_
    clear hg_ hnew_
    (first | rw [← Ny318.out] at ho35 | (simp only [Int.reduceToNat] at ho35; rw [← Ny318.out] at ho35))
    have HO320 := Aside0.mk (Kd.R_lower (Kd.R_newB ho35 (bk BK2)) (below_size (bw HB)))
    refine mv3 hb BK1 BK2 BK3 ?_
    clear BK1 BK2 BK3
    intro BK1 BK2 BK3
    replace HB := kw HB hb
    clear hb ho35
    refine hK.out _ _ ⟨bc BK1 0, bc BK2 0, bc BK2 1, bc BK2 2⟩ (fun hHeld => ?_)
    clear hK K
    refine normK (N := some 11) (h := ?_)
    exact norm_ (by first | (simp only [putAll, Act.put, List.setIfInBounds_toArray, List.set_cons_zero, List.set_cons_succ]; done) | (simp only [putAll, Act.put, List.setIfInBounds_toArray, List.set_cons_zero, List.set_cons_succ]; rfl)) (hJ4 (v319) _ ⟨hHeld, (by (with_reducible repeat (first | apply Kd.R_alloc | apply Kd.R_drewN | apply Kd.R_drew)); exact Kd.R_mono HO320.out (fun _ hk => hk.2)), (bk BK1), (bk BK2), (bk BK3), (bw HB)⟩)
   ·
    skip
    refine box_step ?hg (N := 6) ?hd (cs := #[.slice none 0 0]) (t := 26) ?hr ?_; (case hd => rfl); (case hg => rfl); (case hr => first | (go_simp; done) | (go_simp; rfl))
    intro gb4 hg w34 hbox hb
    have BK4 := Aside0.mk (hbox)
    have GW4 := gw HB hg
    have GE4 := gw HB hg
    replace HB := kw HB hb
    obtain ⟨NB1_4, NB4_1, NB2_4, NB4_2, NB3_4, NB4_3⟩ := nv3 hg BK1 BK2 BK3
    refine mv3 hb BK1 BK2 BK3 ?_
    clear BK1 BK2 BK3
    intro BK1 BK2 BK3
    clear hb hbox hg
    refine hK.out _ _ ⟨bc BK1 0, bc BK2 0, bc BK2 1, bc BK2 2⟩ (fun hHeld => ?_)
    clear hK K
    refine normK (N := some 6) (h := ?_)
    exact norm_ (by first | (simp only [putAll, Act.put, List.setIfInBounds_toArray, List.set_cons_zero, List.set_cons_succ]; done) | (simp only [putAll, Act.put, List.setIfInBounds_toArray, List.set_cons_zero, List.set_cons_succ]; rfl)) (hJ7 (gb4) _ ⟨hHeld, (bk BK1), (bk BK2), (bk BK3), (bk BK4), GW4.out, GE4.out, NB1_4.out, NB4_1.out, NB2_4.out, NB4_2.out, NB3_4.out, NB4_3.out, (bw HB)⟩)
  skip
  rintro gb4 w35 ⟨hS_, h0_, h1_, h2_, h3_, h4_, h5_, h6_, h7_, h8_, h9_, h10_, h11_, h12_⟩
  have n0_ : Aside0 (w35.heap[gb1]? = some (.cells #[.slice A0_0 l0_0.length c0_0] 26 (0, 0))) := ⟨h0_⟩
  have n1_ : Aside0 (w35.heap[gb2]? = some (.cells #[.int .i64 a1_0, .int .i64 a1_1, .int .i64 a1_2] 28 (0, 0))) := ⟨h1_⟩
  have n2_ : Aside0 (w35.heap[gb3]? = some (.cells #[.slice none 0 0] 26 (0, 0))) := ⟨h2_⟩
  have n3_ : Aside0 (w35.heap[gb4]? = some (.cells #[.slice none 0 0] 26 (0, 0))) := ⟨h3_⟩
  have n4_ : Aside0 (w.heap.size ≤ gb4) := ⟨h4_⟩
  have n5_ : Aside0 (w.heap.size ≤ gb4) := ⟨h5_⟩
  have n6_ : Aside0 (gb1 ≠ gb4) := ⟨h6_⟩
  have n7_ : Aside0 (gb4 ≠ gb1) := ⟨h7_⟩
  have n8_ : Aside0 (gb2 ≠ gb4) := ⟨h8_⟩
  have n9_ : Aside0 (gb4 ≠ gb2) := ⟨h9_⟩
  have n10_ : Aside0 (gb3 ≠ gb4) := ⟨h10_⟩
  have n11_ : Aside0 (gb4 ≠ gb3) := ⟨h11_⟩
  have n12_ : Aside0 (Below w.heap.size w w35) := ⟨h12_⟩
  clear BK1
  clear BK2
  clear BK3
  clear HB
  clear h0_ h1_ h2_ h3_ h4_ h5_ h6_ h7_ h8_ h9_ h10_ h11_ h12_
  have BK1 := n0_
  have BK2 := n1_
  have BK3 := n2_
  have BK4 := n3_
  have GW4 := n4_
  have GE4 := n5_
  have NB1_4 := n6_
  have NB4_1 := n7_
  have NB2_4 := n8_
  have NB4_2 := n9_
  have NB3_4 := n10_
  have NB4_3 := n11_
  have HB := n12_
  clear n0_ n1_ n2_ n3_ n4_ n5_ n6_ n7_ n8_ n9_ n10_ n11_ n12_
  have hHeld : w35.cell? ⟨gb1, 0, none⟩ = some (.slice A0_0 l0_0.length c0_0) ∧ w35.cell? ⟨gb2, 0, none⟩ = some (.int .i64 a1_0) ∧ w35.cell? ⟨gb2, 1, none⟩ = some (.int .i64 a1_1) ∧ w35.cell? ⟨gb2, 2, none⟩ = some (.int .i64 a1_2) := hS_
  refine norm_ (a' := ?_) ?_ ?_
  rotate_left
  ·
   simp only [putAll, Act.put, List.setIfInBounds_toArray, List.set_cons_zero, List.set_cons_succ]
   rfl
  refine two_ (i := 2) (j := 4) (Ni := some 9) (Nj := some 11) #[true, true, true, true, false, false, false, true, false] #[true, true, false, true, true, false, false, true, false] rfl rfl rfl rfl (two_of HT_.out (by kernel_rfl)) (by decide) (by decide) (fun K hK => ?_) (fun K hK => ?_)
  rotate_left
  ·
   skip
   refine Kd.R_lit_step k28 _ 28 ?hg (N := 11) ?hd (xs := ([(⟨a1_0, a1_1, a1_2⟩ : S28)] : List (S28))) (inner := [.int .i64 a1_0, .int .i64 a1_1, .int .i64 a1_2]) (ok := fun _ => True) (okp := fun _ => True) ?hr ?hp (fun _ hk => hk) trivial (Below.refl _ _) (Nat.le_refl _) (by simp) ?_; (case hd => rfl); (case hg => rfl); (case hr => first | (go_simp; done) | (go_simp; rfl)); (case hp => exact (Reps.c3 (show Kd.M k28 _ _ _ (⟨a1_0, a1_1, a1_2⟩ : S28) [.int .i64 a1_0, .int .i64 a1_1, .int .i64 a1_2] from (k28_mkM _ _ _ (⟨a1_0, a1_1, a1_2⟩ : S28) )) (Reps.none _ _)))
   intro v319 w36 ho37 hb hg_ hnew_
   clear hg_ hnew_
   (first | rw [← Ny318.out] at ho37 | (simp only [Int.reduceToNat] at ho37; rw [← Ny318.out] at ho37))
   have HO320 := Aside0.mk (Kd.R_lower (Kd.R_newB ho37 (bk BK2)) (below_size (bw HB)))
   refine mv4 hb BK1 BK2 BK3 BK4 ?_
   clear BK1 BK2 BK3 BK4
   intro BK1 BK2 BK3 BK4
   replace HB := kw HB hb
   clear hb ho37
   refine hK.out _ _ ⟨bc BK1 0, bc BK2 0, bc BK2 1, bc BK2 2⟩ (fun hHeld => ?_)
   clear hK K
   refine normK (N := some 11) (h := ?_)
   exact norm_ (by first | (simp only [putAll, Act.put, List.setIfInBounds_toArray, List.set_cons_zero, List.set_cons_succ]; done) | (simp only [putAll, Act.put, List.setIfInBounds_toArray, List.set_cons_zero, List.set_cons_succ]; rfl)) (hJ4_7 (v319, gb4) _ ⟨hHeld, (by (with_reducible repeat (first | apply Kd.R_alloc | apply Kd.R_drewN | apply Kd.R_drew)); exact Kd.R_mono HO320.out (fun _ hk => hk.2)), (bk BK1), (bk BK2), (bk BK3), (bk BK4), GW4.out, GE4.out, NB1_4.out, NB4_1.out, NB2_4.out, NB4_2.out, NB3_4.out, NB4_3.out, (bw HB)⟩)
  skip
  refine goes_ Try.func47 (by kernel_rfl) rfl #[.slice A0_0 l0_0.length c0_0] (by rfl) rfl rfl argR ?_
  with_reducible refine (impl_Clue_47.calls _ _ l0_0 t315 _ ?side1 ?side2 A3.out).mono ?_
  (case side1 => exact cb HR0_0 HB)
  (case side2 => exact HC0_0.out)
  rintro e w36 ⟨v316, rfl, ho0, hb⟩
  refine ⟨_, rfl, ?_⟩
  have HO317 := Aside0.mk (Kd.R_lower (Kd.R_newB ho0 (bk BK2)) (below_size (bw HB)))
  refine mv4 hb BK1 BK2 BK3 BK4 ?_
  clear BK1 BK2 BK3 BK4
  intro BK1 BK2 BK3 BK4
  replace HB := kw HB hb
  (try clear hb)
  (try clear hb2)
  (try clear hk)
  (try clear hi)
  (try clear ho0)
  refine hK.out _ _ ⟨bc BK1 0, bc BK2 0, bc BK2 1, bc BK2 2⟩ (fun hHeld => ?_)
  clear hK K
  refine normK (N := some 9) (h := ?_)
  exact norm_ (by first | (simp only [putAll, Act.put, List.setIfInBounds_toArray, List.set_cons_zero, List.set_cons_succ]; done) | (simp only [putAll, Act.put, List.setIfInBounds_toArray, List.set_cons_zero, List.set_cons_succ]; rfl)) (hJ2_7 (v316, gb4) _ ⟨hHeld, (by (with_reducible repeat (first | apply Kd.R_alloc | apply Kd.R_drewN | apply Kd.R_drew)); exact Kd.R_mono HO317.out (fun _ hk => hk.2)), (bk BK1), (bk BK2), (bk BK3), (bk BK4), GW4.out, GE4.out, NB1_4.out, NB4_1.out, NB2_4.out, NB4_2.out, NB3_4.out, NB4_3.out, (bw HB)⟩)
 rintro ⟨v316, v319, v322, gb4⟩ w41 ⟨hS_, h0_, h1_, h2_, h3_, h4_, h5_, h6_, h7_, h8_, h9_, h10_, h11_, h12_, h13_, h14_⟩
 have n0_ : Aside0 (Kd.R k28 28 w41 w.heap.size (fun k_ => some k_ ≠ (v322 : Value).ownBlock ∧ k_ ≠ gb2) v319 y318) := ⟨h0_⟩
 have n1_ : Aside0 (Kd.R k28 28 w41 w.heap.size (fun k_ => some k_ ≠ (v319 : Value).ownBlock ∧ k_ ≠ gb2) v322 y321) := ⟨h1_⟩
 have n2_ : Aside0 (w41.heap[gb1]? = some (.cells #[.slice A0_0 l0_0.length c0_0] 26 (0, 0))) := ⟨h2_⟩
 have n3_ : Aside0 (w41.heap[gb2]? = some (.cells #[.int .i64 a1_0, .int .i64 a1_1, .int .i64 a1_2] 28 (0, 0))) := ⟨h3_⟩
 have n4_ : Aside0 (w41.heap[gb3]? = some (.cells #[.slice none 0 0] 26 (0, 0))) := ⟨h4_⟩
 have n5_ : Aside0 (w41.heap[gb4]? = some (.cells #[.slice none 0 0] 26 (0, 0))) := ⟨h5_⟩
 have n6_ : Aside0 (w.heap.size ≤ gb4) := ⟨h6_⟩
 have n7_ : Aside0 (w.heap.size ≤ gb4) := ⟨h7_⟩
 have n8_ : Aside0 (gb1 ≠ gb4) := ⟨h8_⟩
 have n9_ : Aside0 (gb4 ≠ gb1) := ⟨h9_⟩
 have n10_ : Aside0 (gb2 ≠ gb4) := ⟨h10_⟩
 have n11_ : Aside0 (gb4 ≠ gb2) := ⟨h11_⟩
 have n12_ : Aside0 (gb3 ≠ gb4) := ⟨h12_⟩
 have n13_ : Aside0 (gb4 ≠ gb3) := ⟨h13_⟩
 have n14_ : Aside0 (Below w.heap.size w w41) := ⟨h14_⟩
 clear BK1
 clear BK2
 clear BK3
 clear HB
 clear h0_ h1_ h2_ h3_ h4_ h5_ h6_ h7_ h8_ h9_ h10_ h11_ h12_ h13_ h14_
 have HO320 := n0_
 have HO323 := n1_
 have BK1 := n2_
 have BK2 := n3_
 have BK3 := n4_
 have BK4 := n5_
 have GW4 := n6_
 have GE4 := n7_
 have NB1_4 := n8_
 have NB4_1 := n9_
 have NB2_4 := n10_
 have NB4_2 := n11_
 have NB3_4 := n12_
 have NB4_3 := n13_
 have HB := n14_
 clear n0_ n1_ n2_ n3_ n4_ n5_ n6_ n7_ n8_ n9_ n10_ n11_ n12_ n13_ n14_
 have hHeld : w41.cell? ⟨gb1, 0, none⟩ = some (.slice A0_0 l0_0.length c0_0) ∧ w41.cell? ⟨gb2, 0, none⟩ = some (.int .i64 a1_0) ∧ w41.cell? ⟨gb2, 1, none⟩ = some (.int .i64 a1_1) ∧ w41.cell? ⟨gb2, 2, none⟩ = some (.int .i64 a1_2) := hS_
 obtain ⟨Ao42, co42, eo42⟩ := Kd.R_slice HO323.out
 (first | subst eo42 | (injection eo42 with f1_ f2_ f3_; have f4_ := f1_.symm; have f5_ := f3_.symm; clear f1_ f2_ f3_; subst f4_; subst f5_))
 refine norm_ (a' := ?_) ?_ ?_
 rotate_left
 ·
  simp only [putAll, Act.put, List.setIfInBounds_toArray, List.set_cons_zero, List.set_cons_succ]
  rfl
 refine oneK HT_ 8 none (fun K hK => ?_)
 have hs43 : w41.cell? ⟨gb4, 0, none⟩ = some (.slice none 0 0) := bc BK4 0
 have hfs43 := blk_frozen BK4.out 0
 have hns43_0 := NB1_4.out
 have hns43_1 := NB2_4.out
 have hns43_2 := NB3_4.out
 have hms43_0 := NB4_1.out
 have hms43_1 := NB4_2.out
 have hms43_2 := NB4_3.out
 refine skip_ (w1 := ?_) (by rfl) rfl ?_ ?_
 rotate_left
 ·
  go_simp
  rfl
 refine hK.out _ _ ⟨((cell_far (p := ⟨gb4, _, none⟩) NB1_4.out _).trans (hHeld.1)), ((cell_far (p := ⟨gb4, _, none⟩) NB2_4.out _).trans (hHeld.2.1)), ((cell_far (p := ⟨gb4, _, none⟩) NB2_4.out _).trans (hHeld.2.2.1)), ((cell_far (p := ⟨gb4, _, none⟩) NB2_4.out _).trans (hHeld.2.2.2))⟩ (fun hHeld => ?_)
 clear hK K
 refine done_ (done_of HT_.out (by kernel_rfl)) ?_
 have hnb44 := up3 NB4_1 NB4_2 NB4_3
 obtain ⟨hcz47_0, hfz47_0⟩ := kc1 BK4
 try go_wp2_with (first | ((with_reducible refine gate_callee (f := 11) rfl ?_); refine goK (some 15) Try.func11 #[.agg #[.slice Ao42 y321.length co42]] ?_; (with_reducible refine (impl_IsPuzzle.calls k _ _ y321 false _ ?side1 ?side2 A5.out).mono ?_); (case side1 => exact rsf HO323 BK4); (case side2 => exact rl HO323); rintro e w48 ⟨rfl, hb⟩; refine ⟨_, rfl, ?_⟩; replace HO320 := kof HO320 BK4 hb; replace HO323 := kof HO323 BK4 hb; replace BK1 := kbf BK1 NB1_4 hb; replace BK2 := kbf BK2 NB2_4 hb; replace BK3 := kbf BK3 NB3_4 hb; replace BK4 := kbt (cs' := #[.slice Ao42 y321.length co42]) BK4 hb; replace HB := kw HB hb; (try clear hb); (try clear hk); have hnb49 := up2 NB3_1 NB3_2; obtain ⟨hcz51_0, hfz51_0⟩ := kc1 BK3))
 refine bodyPost_ret (results_ct rfl _ _ gb3 26 #[.slice none 0 0] (0, 0) _ rfl (bt BK3) Try.underlying26 rfl (by kernel_rfl)) rfl ?_
 exact ⟨_, eqR, by first | exact Kd.R_nil _ _ _ _ _ | exact Kd.N_nil _ _ _ _ _ | exact Kd.V_nil _ _ _ _ _ | exact Kd.Q_nil _ _ _ _ _ | exact Kd.S_nil _ _ _ _ _, bw HB⟩

end Go.Proofs.Ytlpjooijkeadbaa.PH
