/- The puzzle's functions as plain values: what each printed function of the law 'FnSnailsHiddenOfAll' computes, for whatever is given within the bounds its own checks keep. -/
import Derived.Test.YtlpjooijkeadbaaPHx10
namespace Go.Proofs.Ytlpjooijkeadbaa.PureA
open Go Go.RowKit Go.Proofs.Ytlpjooijkeadbaa.PH Go.Proofs.YtlpjooijkeadbaaW.PrintWords Go.Proofs.YtlpjooijkeadbaaW.PrintLast Go.Proofs.YtlpjooijkeadbaaW.PrintMore
set_option linter.unusedVariables false
set_option linter.unusedSimpArgs false
/-! ### Rounds that are enough -/
def Ev {α : Type} (f : Nat → Option α) (v : α) : Prop := ∃ K, ∀ k, K ≤ k → f k = some v
section
variable {α β : Type}
theorem Ev.get {f : Nat → Option α} {v : α} (h : Ev f v) : ∃ K, ∀ k, K ≤ k → f k = some v := h
theorem Ev.mk {f : Nat → Option α} {v : α} (K : Nat) (h : ∀ k, K ≤ k → f k = some v) : Ev f v := ⟨K, h⟩
theorem Ev.all {f : Nat → Option α} {v : α} (h : ∀ k, f k = some v) : Ev f v := ⟨0, fun k _ => h k⟩
theorem Ev.bind {f : Nat → Option α} {g : Nat → α → Option β} {v : α} {w : β} (h : Ev f v) (h2 : Ev (fun k => g k v) w) : Ev (fun k => (f k).bind (g k)) w := by
  obtain ⟨K, hK⟩ := h
  obtain ⟨L, hL⟩ := h2
  exact ⟨max K L, fun k hk => by show (f k).bind (g k) = some w; rw [hK k (by omega)]; exact hL k (by omega)⟩
theorem Ev.step {f g : Nat → Option α} {v : α} (h : Ev g v) (hs : ∀ k, f (k + 1) = g k) : Ev f v := by
  obtain ⟨K, hK⟩ := h
  refine ⟨K + 1, fun k hk => ?_⟩
  obtain ⟨m, rfl⟩ : ∃ m, k = m + 1 := ⟨k - 1, by omega⟩
  rw [hs]; exact hK m (by omega)
theorem Ev.stepB {f : Nat → Option α} {x : Nat → Option β} {y : β} {g : Nat → Option α} {v : α} (hx : Ev x y) (h : Ev g v) (hs : ∀ k, x k = some y → f (k + 1) = g k) : Ev f v := by
  obtain ⟨K, hK⟩ := h
  obtain ⟨L, hL⟩ := hx
  refine ⟨max K L + 1, fun k hk => ?_⟩
  obtain ⟨m, rfl⟩ : ∃ m, k = m + 1 := ⟨k - 1, by omega⟩
  rw [hs m (hL m (by omega))]; exact hK m (by omega)
theorem Ev.cong {f g : Nat → Option α} {v : α} (h : Ev g v) (hs : ∀ k, f k = g k) : Ev f v := by
  obtain ⟨K, hK⟩ := h
  exact ⟨K, fun k hk => by rw [hs]; exact hK k hk⟩
end
theorem w64 {x : Int} (h1 : -9000000000000000000 ≤ x) (h2 : x ≤ 9000000000000000000) : wrap64 x = x := by unfold wrap64; omega
/-! ### Bounds -/
def inb (a lo hi : Int) : Bool := decide (lo ≤ a) && decide (a ≤ hi)
theorem within_eq (a b c : Int) : impl_within.f a b c = some (inb a b c) := by
  unfold impl_within.f inb
  by_cases h : a ≥ b
  · rw [if_pos h]; simp [show b ≤ a from h]
  · rw [if_neg h]; simp [show ¬ b ≤ a from h]
theorem l1In_eq (a b c : Int) : spec_l1In.f a b c = some (inb a b c) := by
  unfold spec_l1In.f inb
  by_cases h : a ≥ b
  · rw [if_pos h]; simp [show b ≤ a from h]
  · rw [if_neg h]; simp [show ¬ b ≤ a from h]
def hid (u d : Int) : Bool := inb u 1 12 && inb d 0 12
theorem hid_of {u d : Int} (h : hid u d = true) : 1 ≤ u ∧ u ≤ 12 ∧ 0 ≤ d ∧ d ≤ 12 := by
  simp only [hid, inb, Bool.and_eq_true, decide_eq_true_eq] at h; omega
theorem hid_mk {u d : Int} (h : 1 ≤ u ∧ u ≤ 12 ∧ 0 ≤ d ∧ d ≤ 12) : hid u d = true := by
  simp only [hid, inb, Bool.and_eq_true, decide_eq_true_eq]; omega
theorem isHidden_eq (u d : Int) : impl_isHidden.f u d = some (hid u d) := by
  unfold impl_isHidden.f hid
  rw [within_eq, within_eq]
  cases inb u 1 12 <;> simp
theorem pzHidden_eq (u d : Int) : spec_pzHidden.f u d = some (hid u d) := by
  unfold spec_pzHidden.f spec_snGood.f hid
  rw [l1In_eq, l1In_eq]
  by_cases h1 : 1 ≤ u <;> by_cases h2 : u ≤ 12 <;> by_cases h3 : 0 ≤ d <;> by_cases h4 : d ≤ 12 <;> by_cases h5 : u ≤ 1000 <;> by_cases h6 : d ≤ 1000 <;> simp [inb, h1, h2, h3, h4, h5, h6] <;> omega
/-! ### What a clue tells -/
def tell (k a u d : Int) : Int :=
  if k = 0 then (if a ≤ u then 1 else if u ≤ d then 0 else 1 + Int.tdiv (a - u + (u - d) - 1) (u - d))
  else if k = 1 then mn 100 (u + mx 0 (u - d) * (a - 1))
  else if k = 2 then u + d
  else if k = 3 then (if Int.tmod u a = 0 then 1 else 0)
  else u - d
theorem prodB {q s : Int} (h1 : 0 ≤ q) (h2 : q ≤ 12) (h3 : -1 ≤ s) (h4 : s ≤ 100) : -12 ≤ q * s ∧ q * s ≤ 1200 := by
  have a := Int.mul_le_mul_of_nonneg_left h4 h1
  have b := Int.mul_le_mul_of_nonneg_left h3 h1
  omega
theorem tdivB {n q : Int} (h1 : 0 ≤ n) (h2 : 1 ≤ q) : 0 ≤ Int.tdiv n q ∧ Int.tdiv n q ≤ n := by
  rw [Int.tdiv_eq_ediv_of_nonneg h1]
  exact ⟨Int.ediv_nonneg h1 (by omega), Int.ediv_le_self q h1⟩
theorem dayOf_eq {u d a : Int} (h : 1 ≤ u ∧ u ≤ 12 ∧ 0 ≤ d ∧ d ≤ 12) (ha : a ≤ 100) :
    impl_dayOfHeight.f u d a = some (if a ≤ u then 1 else if u ≤ d then 0 else 1 + Int.tdiv (a - u + (u - d) - 1) (u - d)) := by
  unfold impl_dayOfHeight.f
  by_cases c1 : a ≤ u
  · simp [c1]
  by_cases c2 : u ≤ d
  · simp [c1, c2]
  rw [if_neg c1, if_neg c2, if_neg c1, if_neg c2]
  have e1 : wrap64 (u - d) = u - d := w64 (by omega) (by omega)
  have e2 : wrap64 (a - u) = a - u := w64 (by omega) (by omega)
  rw [e1, e2, if_neg (by omega), w64 (x := a - u + (u - d)) (by omega) (by omega), w64 (x := a - u + (u - d) - 1) (by omega) (by omega)]
  have b := tdivB (n := a - u + (u - d) - 1) (q := u - d) (by omega) (by omega)
  rw [w64 (x := Int.tdiv _ _) (by omega) (by omega), w64 (by omega) (by omega)]
theorem evening_eq {u d a t : Int} (h : 1 ≤ u ∧ u ≤ 12 ∧ 0 ≤ d ∧ d ≤ 12) (h0 : 0 ≤ a) (ha : a ≤ 100) : impl_eveningHeight.f u d t a = some (mn t (u + mx 0 (u - d) * (a - 1))) := by
  unfold impl_eveningHeight.f impl_reachOf.f
  have e1 : wrap64 (u - d) = u - d := w64 (by omega) (by omega)
  have e2 : wrap64 (a - 1) = a - 1 := w64 (by omega) (by omega)
  have hm : 0 ≤ mx 0 (u - d) ∧ mx 0 (u - d) ≤ 12 := by unfold mx; split <;> omega
  have b := prodB (s := a - 1) hm.1 hm.2 (by omega) (by omega)
  simp only [Option.bind_some]
  rw [e1, e2, w64 (x := mx 0 (u - d) * (a - 1)) (by omega) (by omega), w64 (by omega) (by omega)]
theorem toldBy_eq {k a b u d : Int} (h : 1 ≤ u ∧ u ≤ 12 ∧ 0 ≤ d ∧ d ≤ 12) (h0 : 0 ≤ a) (ha : a ≤ 100) (h3 : k = 3 → a ≠ 0) : impl_toldBy.f k a b u d = some (tell k a u d) := by
  unfold impl_toldBy.f tell
  by_cases c0 : k = 0
  · rw [if_pos c0, if_pos c0, dayOf_eq h ha]; rfl
  rw [if_neg c0, if_neg c0]
  by_cases c1 : k = 1
  · rw [if_pos c1, if_pos c1, evening_eq h h0 ha]; rfl
  rw [if_neg c1, if_neg c1]
  by_cases c2 : k = 2
  · rw [if_pos c2, if_pos c2, w64 (by omega) (by omega)]
  rw [if_neg c2, if_neg c2]
  by_cases c3 : k = 3
  · rw [if_pos c3, if_pos c3, if_neg (h3 c3)]; split <;> rfl
  rw [if_neg c3, if_neg c3, w64 (by omega) (by omega)]
theorem pzValue_eq {k a u d : Int} (h : 1 ≤ u ∧ u ≤ 12 ∧ 0 ≤ d ∧ d ≤ 12) (h0 : 0 ≤ a) (ha : a ≤ 100) (h3 : k = 3 → a ≠ 0) : spec_pzValue.f k a u d = some (tell k a u d) := by
  unfold spec_pzValue.f tell
  by_cases c0 : k = 0
  · rw [if_pos c0, if_pos c0]
    unfold spec_snCan.f spec_snDays.f
    by_cases c1 : a ≤ u
    · simp [c1]
    have c1' : ¬ u ≥ a := by omega
    by_cases c2 : u ≤ d
    · have c2' : ¬ u > d := by omega
      simp [c1, c2, c1', c2', show ¬ d < u from c2']
    have e1 : wrap64 (u - d) = u - d := w64 (by omega) (by omega)
    have e2 : wrap64 (a - u) = a - u := w64 (by omega) (by omega)
    have b := tdivB (n := a - u + (u - d) - 1) (q := u - d) (by omega) (by omega)
    rw [if_neg c1', if_neg c1', if_neg c1, if_neg c2]
    simp only [Option.bind_some, show decide (u > d) = true by simp; omega, if_true]
    rw [e1, e2, if_neg (by omega), w64 (x := a - u + (u - d)) (by omega) (by omega), w64 (x := a - u + (u - d) - 1) (by omega) (by omega), w64 (x := Int.tdiv _ _) (by omega) (by omega), w64 (by omega) (by omega)]
    rfl
  rw [if_neg c0, if_neg c0]
  by_cases c1 : k = 1
  · rw [if_pos c1, if_pos c1]
    unfold spec_snEvening.f spec_l1Least.f
    have e1 : wrap64 (u - d) = u - d := w64 (by omega) (by omega)
    have e2 : wrap64 (a - 1) = a - 1 := w64 (by omega) (by omega)
    have hm : 0 ≤ mx 0 (u - d) ∧ mx 0 (u - d) ≤ 12 := by unfold mx; split <;> omega
    have b := prodB (s := a - 1) hm.1 hm.2 (by omega) (by omega)
    by_cases c2 : d ≥ u
    · have : mx 0 (u - d) = 0 := by unfold mx; rw [if_neg (by omega)]
      rw [if_pos c2, this]; simp [mn]; split <;> split <;> first | rfl | omega
    · have hx : mx 0 (u - d) = u - d := by unfold mx; rw [if_pos (by omega)]
      rw [hx] at b ⊢
      rw [if_neg c2, e1, e2, Int.mul_comm (a - 1), w64 (x := (u - d) * (a - 1)) (by omega) (by omega), w64 (by omega) (by omega)]
      simp only [Option.bind_some, mn]
      split <;> split <;> first | rfl | omega | (simp; omega)
  rw [if_neg c1, if_neg c1]
  by_cases c2 : k = 2
  · rw [if_pos c2, if_pos c2, w64 (by omega) (by omega)]
  rw [if_neg c2, if_neg c2]
  by_cases c3 : k = 3
  · rw [if_pos c3, if_pos c3, if_neg (h3 c3)]; split <;> rfl
  rw [if_neg c3, if_neg c3, w64 (by omega) (by omega)]
/-! ### Clues -/
def clue (k a b : Int) : Bool :=
  if k = 0 then inb a 1 100 && inb b 0 100 else if k = 1 then inb a 1 100 && inb b 1 100 else if k = 2 then decide (a = 0) && inb b 0 24
  else if k = 3 then inb a 2 9 && inb b 0 1 else if k = 4 then decide (a = 0) && inb b (-12) 12 else false
theorem IsClue_eq (k a b : Int) : impl_IsClue.f k a b = some (clue k a b) := by
  unfold impl_IsClue.f clue
  simp only [within_eq, Option.bind_some]
  repeat' split
  all_goals simp_all
theorem pzClue_eq (k a b : Int) : spec_pzClue.f k a b = some (clue k a b) := by
  unfold spec_pzClue.f clue
  simp only [l1In_eq, Option.bind_some]
  repeat' split
  all_goals simp_all
theorem clue_a {k a b : Int} (h : clue k a b = true) : 0 ≤ a ∧ a ≤ 100 ∧ (k = 3 → a ≠ 0) := by
  unfold clue inb at h
  repeat' split at h
  all_goals simp at h
  all_goals omega
theorem doesFit_eq {k a b u d : Int} (h : hid u d = true) (hc : clue k a b = true) : impl_doesFit.f k a b u d = some (tell k a u d == b) := by
  unfold impl_doesFit.f; obtain ⟨h0, h1, h2⟩ := clue_a hc
  rw [toldBy_eq (hid_of h) h0 h1 h2]; rfl
theorem pzFits_eq {k a b u d : Int} (h : hid u d = true) (hc : clue k a b = true) : spec_pzFits.f k a b u d = some (tell k a u d == b) := by
  unfold spec_pzFits.f; obtain ⟨h0, h1, h2⟩ := clue_a hc
  rw [pzValue_eq (hid_of h) h0 h1 h2]; rfl
theorem DoesFit_eq (k a b u d : Int) : impl_DoesFit.f k a b u d = some (clue k a b && hid u d && (tell k a u d == b), clue k a b && hid u d) := by
  unfold impl_DoesFit.f
  rw [IsClue_eq, isHidden_eq]
  cases hc : clue k a b
  · simp
  cases hh : hid u d
  · simp
  simp only [Option.bind_some, if_true]
  rw [doesFit_eq hh hc]; rfl
theorem specDoesFit_eq (k a b u d : Int) : spec_DoesFit.f k a b u d = some (clue k a b && hid u d && (tell k a u d == b), clue k a b && hid u d) := by
  unfold spec_DoesFit.f
  rw [pzClue_eq, pzHidden_eq]
  cases hh : hid u d
  · simp
  cases hc : clue k a b
  · simp
  simp only [Option.bind_some, if_true]
  rw [pzFits_eq hh hc]; rfl
theorem specIsClue_eq (k a b : Int) : spec_IsClue.f k a b = some (clue k a b) := by unfold spec_IsClue.f; rw [pzClue_eq]; rfl
def okc (c : S28) : Bool := clue c.f0 c.f1 c.f2
def fit (c : S28) (u d : Int) : Bool := tell c.f0 c.f1 u d == c.f2
def good (l : List S28) : Bool := decide (l.length ≤ 6) && l.all okc
theorem rd_drop {l : List S28} {i : Nat} (h : i < l.length) : l.drop i = rd_T28 l (i : Int) :: l.drop (i + 1) := by
  rw [List.drop_eq_getElem_cons h]; congr 1; simp [rd_T28, h]
theorem index_ev (l : List S28) (hl : l.length ≤ 6) : ∀ n i : Nat, l.length = i + n → ∃ r : Int, Ev (fun k => slices_IndexFunc_at_impl_IsPuzzle_1.l0 k l (l.length : Int) (i : Int)) r ∧ decide (r ≥ 0) = !(l.drop i).all okc
  | 0, i, h => by
    refine ⟨-1, Ev.step (g := fun _ => some (-1)) (Ev.all fun _ => rfl) (fun k => ?_), ?_⟩
    · simp only [slices_IndexFunc_at_impl_IsPuzzle_1.l0]; rw [if_neg (by omega)]
    · rw [List.drop_of_length_le (by omega)]; rfl
  | n + 1, i, h => by
    have hi : i < l.length := by omega
    have hd := rd_drop hi
    cases hc : okc (rd_T28 l (i : Int))
    · refine ⟨i, Ev.step (g := fun _ => some (i : Int)) (Ev.all fun _ => rfl) (fun k => ?_), ?_⟩
      · simp only [slices_IndexFunc_at_impl_IsPuzzle_1.l0, impl_IsPuzzle_1.f, IsClue_eq]
        rw [if_pos (by omega), if_pos (by omega), if_pos (by omega)]
        have : clue (rd_T28 l (i : Int)).f0 (rd_T28 l (i : Int)).f1 (rd_T28 l (i : Int)).f2 = false := hc
        simp [this]
      · rw [hd]; simp [hc]
    · obtain ⟨r, h1, h2⟩ := index_ev l hl n (i + 1) (by omega)
      refine ⟨r, Ev.step h1 (fun k => ?_), ?_⟩
      · simp only [slices_IndexFunc_at_impl_IsPuzzle_1.l0, impl_IsPuzzle_1.f, IsClue_eq]
        rw [if_pos (by omega), if_pos (by omega), if_pos (by omega)]
        have : clue (rd_T28 l (i : Int)).f0 (rd_T28 l (i : Int)).f1 (rd_T28 l (i : Int)).f2 = true := hc
        simp only [this, Option.bind_some, Bool.not_true, Bool.false_eq_true, if_false]
        rw [w64 (by omega) (by omega)]; rfl
      · rw [hd, h2]; simp [hc]
theorem IsPuzzle_ev (l : List S28) : Ev (fun k => impl_IsPuzzle.f k l) (good l) := by
  unfold impl_IsPuzzle.f good
  by_cases h : l.length ≤ 6
  · obtain ⟨r, h1, h2⟩ := index_ev l h l.length 0 (by omega)
    refine Ev.cong (g := fun k => (slices_ContainsFunc_at_impl_IsPuzzle_1.f k l).bind fun t202 => (some (!t202))) ?_ (fun k => if_pos (by omega))
    refine Ev.bind (v := decide (r ≥ 0)) ?_ (Ev.all fun _ => ?_)
    · unfold slices_ContainsFunc_at_impl_IsPuzzle_1.f slices_IndexFunc_at_impl_IsPuzzle_1.f
      exact Ev.bind h1 (Ev.all fun _ => rfl)
    · rw [h2]; simp [h]
  · exact Ev.all fun k => by rw [if_neg (by omega)]; simp [h]
theorem pzGood_ev (l : List S28) : Ev (fun k => spec_pzGood.f k l) (good l) := by
  unfold spec_pzGood.f good
  by_cases h : l.length ≤ 6
  · refine Ev.cong (g := fun k => spec_pzGood.l0 k l (l.length : Int) 0) ?_ (fun k => if_neg (by omega))
    suffices hh : ∀ n i : Nat, l.length = i + n → Ev (fun k => spec_pzGood.l0 k l (l.length : Int) (i : Int)) ((l.drop i).all okc) by
      have := hh l.length 0 (by omega); simpa [h] using this
    intro n
    induction n with
    | zero =>
      intro i hi
      refine Ev.step (g := fun _ => some true) (Ev.all fun _ => ?_) (fun k => ?_)
      · rw [List.drop_of_length_le (by omega)]; rfl
      · simp only [spec_pzGood.l0]; rw [if_neg (by omega)]
    | succ n ih =>
      intro i hi
      have hil : i < l.length := by omega
      have hd := rd_drop hil
      cases hc : okc (rd_T28 l (i : Int))
      · refine Ev.step (g := fun _ => some false) (Ev.all fun _ => by rw [hd]; simp [hc]) (fun k => ?_)
        simp only [spec_pzGood.l0, pzClue_eq]
        rw [if_pos (by omega), if_pos (by omega), if_pos (by omega)]
        have : clue (rd_T28 l (i : Int)).f0 (rd_T28 l (i : Int)).f1 (rd_T28 l (i : Int)).f2 = false := hc
        simp [this]
      · have := ih (i + 1) (by omega)
        rw [hd]; simp only [List.all_cons, hc, Bool.true_and]
        refine Ev.step this (fun k => ?_)
        simp only [spec_pzGood.l0, pzClue_eq]
        rw [if_pos (by omega), if_pos (by omega), if_pos (by omega)]
        have : clue (rd_T28 l (i : Int)).f0 (rd_T28 l (i : Int)).f1 (rd_T28 l (i : Int)).f2 = true := hc
        simp only [this, Option.bind_some, if_true]
        rw [w64 (by omega) (by omega)]; rfl
  · exact Ev.all fun k => by rw [if_pos (by omega)]; simp [h]
end Go.Proofs.Ytlpjooijkeadbaa.PureA
