/- The puzzle's functions as plain values: what each printed function of the law 'FnSnailsHiddenOfAll' computes, for whatever is given within the bounds its own checks keep. -/
import Derived.Test.YtlpjooijkeadbaaPHx16
namespace Go.Proofs.Ytlpjooijkeadbaa.PureA
open Go Go.RowKit Go.Proofs.Ytlpjooijkeadbaa.PH Go.Proofs.YtlpjooijkeadbaaW.PrintWords Go.Proofs.YtlpjooijkeadbaaW.PrintLast Go.Proofs.YtlpjooijkeadbaaW.PrintMore
set_option linter.unusedVariables false
set_option linter.unusedSimpArgs false
/-! ### Rounds that are enough -/
def Ev {α : Type} (f : Nat → Option α) (v : α) : Prop := ∃ K, ∀ k, K ≤ k → f k = some v
section
variable {α β : Type}
theorem Ev.get {f : Nat → Option α} {v : α} (h : Ev f v) : ∃ K, ∀ k, K ≤ k → f k = some v := h
theorem Ev.mk {f : Nat → Option α} {v : α} (K : Nat) (h : ∀ k, K ≤ k → f k = some v) : Ev f v := ⟨K, h⟩
theorem Ev.all {f : Nat → Option α} {v : α} (h : ∀ k, f k = some v) : Ev f v := ⟨0, fun k _ => h k⟩
theorem Ev.bind {f : Nat → Option α} {g : Nat → α → Option β} {v : α} {w : β} (h : Ev f v) (h2 : Ev (fun k => g k v) w) : Ev (fun k => (f k).bind (g k)) w := by
  obtain ⟨K, hK⟩ := h
  obtain ⟨L, hL⟩ := h2
  exact ⟨max K L, fun k hk => by show (f k).bind (g k) = some w; rw [hK k (by omega)]; exact hL k (by omega)⟩
theorem Ev.step {f g : Nat → Option α} {v : α} (h : Ev g v) (hs : ∀ k, f (k + 1) = g k) : Ev f v := by
  obtain ⟨K, hK⟩ := h
  refine ⟨K + 1, fun k hk => ?_⟩
  obtain ⟨m, rfl⟩ : ∃ m, k = m + 1 := ⟨k - 1, by omega⟩
  rw [hs]; exact hK m (by omega)
theorem Ev.stepB {f : Nat → Option α} {x : Nat → Option β} {y : β} {g : Nat → Option α} {v : α} (hx : Ev x y) (h : Ev g v) (hs : ∀ k, x k = some y → f (k + 1) = g k) : Ev f v := by
  obtain ⟨K, hK⟩ := h
  obtain ⟨L, hL⟩ := hx
  refine ⟨max K L + 1, fun k hk => ?_⟩
  obtain ⟨m, rfl⟩ : ∃ m, k = m + 1 := ⟨k - 1, by omega⟩
  rw [hs m (hL m (by omega))]; exact hK m (by omega)
theorem Ev.cong {f g : Nat → Option α} {v : α} (h : Ev g v) (hs : ∀ k, f k = g k) : Ev f v := by
  obtain ⟨K, hK⟩ := h
  exact ⟨K, fun k hk => by rw [hs]; exact hK k hk⟩
end
theorem w64 {x : Int} (h1 : -9000000000000000000 ≤ x) (h2 : x ≤ 9000000000000000000) : wrap64 x = x := by unfold wrap64; omega
/-! ### Bounds -/
def inb (a lo hi : Int) : Bool := decide (lo ≤ a) && decide (a ≤ hi)
theorem within_eq (a b c : Int) : impl_within.f a b c = some (inb a b c) := by
  unfold impl_within.f inb
  by_cases h : a ≥ b
  · rw [if_pos h]; simp [show b ≤ a from h]
  · rw [if_neg h]; simp [show ¬ b ≤ a from h]
theorem l1In_eq (a b c : Int) : spec_l1In.f a b c = some (inb a b c) := by
  unfold spec_l1In.f inb
  by_cases h : a ≥ b
  · rw [if_pos h]; simp [show b ≤ a from h]
  · rw [if_neg h]; simp [show ¬ b ≤ a from h]
def hid (u d : Int) : Bool := inb u 1 12 && inb d 0 12
theorem hid_of {u d : Int} (h : hid u d = true) : 1 ≤ u ∧ u ≤ 12 ∧ 0 ≤ d ∧ d ≤ 12 := by
  simp only [hid, inb, Bool.and_eq_true, decide_eq_true_eq] at h; omega
theorem hid_mk {u d : Int} (h : 1 ≤ u ∧ u ≤ 12 ∧ 0 ≤ d ∧ d ≤ 12) : hid u d = true := by
  simp only [hid, inb, Bool.and_eq_true, decide_eq_true_eq]; omega
theorem isHidden_eq (u d : Int) : impl_isHidden.f u d = some (hid u d) := by
  unfold impl_isHidden.f hid
  rw [within_eq, within_eq]
  cases inb u 1 12 <;> simp
theorem pzHidden_eq (u d : Int) : spec_pzHidden.f u d = some (hid u d) := by
  unfold spec_pzHidden.f spec_snGood.f hid
  rw [l1In_eq, l1In_eq]
  by_cases h1 : 1 ≤ u <;> by_cases h2 : u ≤ 12 <;> by_cases h3 : 0 ≤ d <;> by_cases h4 : d ≤ 12 <;> by_cases h5 : u ≤ 1000 <;> by_cases h6 : d ≤ 1000 <;> simp [inb, h1, h2, h3, h4, h5, h6] <;> omega
/-! ### What a clue tells -/
def tell (k a u d : Int) : Int :=
  if k = 0 then (if a ≤ u then 1 else if u ≤ d then 0 else 1 + Int.tdiv (a - u + (u - d) - 1) (u - d))
  else if k = 1 then mn 100 (u + mx 0 (u - d) * (a - 1))
  else if k = 2 then u + d
  else if k = 3 then (if Int.tmod u a = 0 then 1 else 0)
  else u - d
theorem prodB {q s : Int} (h1 : 0 ≤ q) (h2 : q ≤ 12) (h3 : -1 ≤ s) (h4 : s ≤ 100) : -12 ≤ q * s ∧ q * s ≤ 1200 := by
  have a := Int.mul_le_mul_of_nonneg_left h4 h1
  have b := Int.mul_le_mul_of_nonneg_left h3 h1
  omega
theorem tdivB {n q : Int} (h1 : 0 ≤ n) (h2 : 1 ≤ q) : 0 ≤ Int.tdiv n q ∧ Int.tdiv n q ≤ n := by
  rw [Int.tdiv_eq_ediv_of_nonneg h1]
  exact ⟨Int.ediv_nonneg h1 (by omega), Int.ediv_le_self q h1⟩
theorem dayOf_eq {u d a : Int} (h : 1 ≤ u ∧ u ≤ 12 ∧ 0 ≤ d ∧ d ≤ 12) (ha : a ≤ 100) :
    impl_dayOfHeight.f u d a = some (if a ≤ u then 1 else if u ≤ d then 0 else 1 + Int.tdiv (a - u + (u - d) - 1) (u - d)) := by
  unfold impl_dayOfHeight.f
  by_cases c1 : a ≤ u
  · simp [c1]
  by_cases c2 : u ≤ d
  · simp [c1, c2]
  rw [if_neg c1, if_neg c2, if_neg c1, if_neg c2]
  have e1 : wrap64 (u - d) = u - d := w64 (by omega) (by omega)
  have e2 : wrap64 (a - u) = a - u := w64 (by omega) (by omega)
  rw [e1, e2, if_neg (by omega), w64 (x := a - u + (u - d)) (by omega) (by omega), w64 (x := a - u + (u - d) - 1) (by omega) (by omega)]
  have b := tdivB (n := a - u + (u - d) - 1) (q := u - d) (by omega) (by omega)
  rw [w64 (x := Int.tdiv _ _) (by omega) (by omega), w64 (by omega) (by omega)]
theorem evening_eq {u d a t : Int} (h : 1 ≤ u ∧ u ≤ 12 ∧ 0 ≤ d ∧ d ≤ 12) (h0 : 0 ≤ a) (ha : a ≤ 100) : impl_eveningHeight.f u d t a = some (mn t (u + mx 0 (u - d) * (a - 1))) := by
  unfold impl_eveningHeight.f impl_reachOf.f
  have e1 : wrap64 (u - d) = u - d := w64 (by omega) (by omega)
  have e2 : wrap64 (a - 1) = a - 1 := w64 (by omega) (by omega)
  have hm : 0 ≤ mx 0 (u - d) ∧ mx 0 (u - d) ≤ 12 := by unfold mx; split <;> omega
  have b := prodB (s := a - 1) hm.1 hm.2 (by omega) (by omega)
  simp only [Option.bind_some]
  rw [e1, e2, w64 (x := mx 0 (u - d) * (a - 1)) (by omega) (by omega), w64 (by omega) (by omega)]
theorem toldBy_eq {k a b u d : Int} (h : 1 ≤ u ∧ u ≤ 12 ∧ 0 ≤ d ∧ d ≤ 12) (h0 : 0 ≤ a) (ha : a ≤ 100) (h3 : k = 3 → a ≠ 0) : impl_toldBy.f k a b u d = some (tell k a u d) := by
  unfold impl_toldBy.f tell
  by_cases c0 : k = 0
  · rw [if_pos c0, if_pos c0, dayOf_eq h ha]; rfl
  rw [if_neg c0, if_neg c0]
  by_cases c1 : k = 1
  · rw [if_pos c1, if_pos c1, evening_eq h h0 ha]; rfl
  rw [if_neg c1, if_neg c1]
  by_cases c2 : k = 2
  · rw [if_pos c2, if_pos c2, w64 (by omega) (by omega)]
  rw [if_neg c2, if_neg c2]
  by_cases c3 : k = 3
  · rw [if_pos c3, if_pos c3, if_neg (h3 c3)]; split <;> rfl
  rw [if_neg c3, if_neg c3, w64 (by omega) (by omega)]
theorem pzValue_eq {k a u d : Int} (h : 1 ≤ u ∧ u ≤ 12 ∧ 0 ≤ d ∧ d ≤ 12) (h0 : 0 ≤ a) (ha : a ≤ 100) (h3 : k = 3 → a ≠ 0) : spec_pzValue.f k a u d = some (tell k a u d) := by
  unfold spec_pzValue.f tell
  by_cases c0 : k = 0
  · rw [if_pos c0, if_pos c0]
    unfold spec_snCan.f spec_snDays.f
    by_cases c1 : a ≤ u
    · simp [c1]
    have c1' : ¬ u ≥ a := by omega
    by_cases c2 : u ≤ d
    · have c2' : ¬ u > d := by omega
      simp [c1, c2, c1', c2', show ¬ d < u from c2']
    have e1 : wrap64 (u - d) = u - d := w64 (by omega) (by omega)
    have e2 : wrap64 (a - u) = a - u := w64 (by omega) (by omega)
    have b := tdivB (n := a - u + (u - d) - 1) (q := u - d) (by omega) (by omega)
    rw [if_neg c1', if_neg c1', if_neg c1, if_neg c2]
    simp only [Option.bind_some, show decide (u > d) = true by simp; omega, if_true]
    rw [e1, e2, if_neg (by omega), w64 (x := a - u + (u - d)) (by omega) (by omega), w64 (x := a - u + (u - d) - 1) (by omega) (by omega), w64 (x := Int.tdiv _ _) (by omega) (by omega), w64 (by omega) (by omega)]
    rfl
  rw [if_neg c0, if_neg c0]
  by_cases c1 : k = 1
  · rw [if_pos c1, if_pos c1]
    unfold spec_snEvening.f spec_l1Least.f
    have e1 : wrap64 (u - d) = u - d := w64 (by omega) (by omega)
    have e2 : wrap64 (a - 1) = a - 1 := w64 (by omega) (by omega)
    have hm : 0 ≤ mx 0 (u - d) ∧ mx 0 (u - d) ≤ 12 := by unfold mx; split <;> omega
    have b := prodB (s := a - 1) hm.1 hm.2 (by omega) (by omega)
    by_cases c2 : d ≥ u
    · have : mx 0 (u - d) = 0 := by unfold mx; rw [if_neg (by omega)]
      rw [if_pos c2, this]; simp [mn]; split <;> split <;> first | rfl | omega
    · have hx : mx 0 (u - d) = u - d := by unfold mx; rw [if_pos (by omega)]
      rw [hx] at b ⊢
      rw [if_neg c2, e1, e2, Int.mul_comm (a - 1), w64 (x := (u - d) * (a - 1)) (by omega) (by omega), w64 (by omega) (by omega)]
      simp only [Option.bind_some, mn]
      split <;> split <;> first | rfl | omega | (simp; omega)
  rw [if_neg c1, if_neg c1]
  by_cases c2 : k = 2
  · rw [if_pos c2, if_pos c2, w64 (by omega) (by omega)]
  rw [if_neg c2, if_neg c2]
  by_cases c3 : k = 3
  · rw [if_pos c3, if_pos c3, if_neg (h3 c3)]; split <;> rfl
  rw [if_neg c3, if_neg c3, w64 (by omega) (by omega)]
/-! ### Clues -/
def clue (k a b : Int) : Bool :=
  if k = 0 then inb a 1 100 && inb b 0 100 else if k = 1 then inb a 1 100 && inb b 1 100 else if k = 2 then decide (a = 0) && inb b 0 24
  else if k = 3 then inb a 2 9 && inb b 0 1 else if k = 4 then decide (a = 0) && inb b (-12) 12 else false
theorem IsClue_eq (k a b : Int) : impl_IsClue.f k a b = some (clue k a b) := by
  unfold impl_IsClue.f clue
  simp only [within_eq, Option.bind_some]
  repeat' split
  all_goals simp_all
theorem pzClue_eq (k a b : Int) : spec_pzClue.f k a b = some (clue k a b) := by
  unfold spec_pzClue.f clue
  simp only [l1In_eq, Option.bind_some]
  repeat' split
  all_goals simp_all
theorem clue_a {k a b : Int} (h : clue k a b = true) : 0 ≤ a ∧ a ≤ 100 ∧ (k = 3 → a ≠ 0) := by
  unfold clue inb at h
  repeat' split at h
  all_goals simp at h
  all_goals omega
theorem doesFit_eq {k a b u d : Int} (h : hid u d = true) (hc : clue k a b = true) : impl_doesFit.f k a b u d = some (tell k a u d == b) := by
  unfold impl_doesFit.f; obtain ⟨h0, h1, h2⟩ := clue_a hc
  rw [toldBy_eq (hid_of h) h0 h1 h2]; rfl
theorem pzFits_eq {k a b u d : Int} (h : hid u d = true) (hc : clue k a b = true) : spec_pzFits.f k a b u d = some (tell k a u d == b) := by
  unfold spec_pzFits.f; obtain ⟨h0, h1, h2⟩ := clue_a hc
  rw [pzValue_eq (hid_of h) h0 h1 h2]; rfl
theorem DoesFit_eq (k a b u d : Int) : impl_DoesFit.f k a b u d = some (clue k a b && hid u d && (tell k a u d == b), clue k a b && hid u d) := by
  unfold impl_DoesFit.f
  rw [IsClue_eq, isHidden_eq]
  cases hc : clue k a b
  · simp
  cases hh : hid u d
  · simp
  simp only [Option.bind_some, if_true]
  rw [doesFit_eq hh hc]; rfl
theorem specDoesFit_eq (k a b u d : Int) : spec_DoesFit.f k a b u d = some (clue k a b && hid u d && (tell k a u d == b), clue k a b && hid u d) := by
  unfold spec_DoesFit.f
  rw [pzClue_eq, pzHidden_eq]
  cases hh : hid u d
  · simp
  cases hc : clue k a b
  · simp
  simp only [Option.bind_some, if_true]
  rw [pzFits_eq hh hc]; rfl
theorem specIsClue_eq (k a b : Int) : spec_IsClue.f k a b = some (clue k a b) := by unfold spec_IsClue.f; rw [pzClue_eq]; rfl
def okc (c : S28) : Bool := clue c.f0 c.f1 c.f2
def fit (c : S28) (u d : Int) : Bool := tell c.f0 c.f1 u d == c.f2
def good (l : List S28) : Bool := decide (l.length ≤ 6) && l.all okc
theorem rd_drop {l : List S28} {i : Nat} (h : i < l.length) : l.drop i = rd_T28 l (i : Int) :: l.drop (i + 1) := by
  rw [List.drop_eq_getElem_cons h]; congr 1; simp [rd_T28, h]
theorem index_ev (l : List S28) (hl : l.length ≤ 6) : ∀ n i : Nat, l.length = i + n → ∃ r : Int, Ev (fun k => slices_IndexFunc_at_impl_IsPuzzle_1.l0 k l (l.length : Int) (i : Int)) r ∧ decide (r ≥ 0) = !(l.drop i).all okc
  | 0, i, h => by
    refine ⟨-1, Ev.step (g := fun _ => some (-1)) (Ev.all fun _ => rfl) (fun k => ?_), ?_⟩
    · simp only [slices_IndexFunc_at_impl_IsPuzzle_1.l0]; rw [if_neg (by omega)]
    · rw [List.drop_of_length_le (by omega)]; rfl
  | n + 1, i, h => by
    have hi : i < l.length := by omega
    have hd := rd_drop hi
    cases hc : okc (rd_T28 l (i : Int))
    · refine ⟨i, Ev.step (g := fun _ => some (i : Int)) (Ev.all fun _ => rfl) (fun k => ?_), ?_⟩
      · simp only [slices_IndexFunc_at_impl_IsPuzzle_1.l0, impl_IsPuzzle_1.f, IsClue_eq]
        rw [if_pos (by omega), if_pos (by omega), if_pos (by omega)]
        have : clue (rd_T28 l (i : Int)).f0 (rd_T28 l (i : Int)).f1 (rd_T28 l (i : Int)).f2 = false := hc
        simp [this]
      · rw [hd]; simp [hc]
    · obtain ⟨r, h1, h2⟩ := index_ev l hl n (i + 1) (by omega)
      refine ⟨r, Ev.step h1 (fun k => ?_), ?_⟩
      · simp only [slices_IndexFunc_at_impl_IsPuzzle_1.l0, impl_IsPuzzle_1.f, IsClue_eq]
        rw [if_pos (by omega), if_pos (by omega), if_pos (by omega)]
        have : clue (rd_T28 l (i : Int)).f0 (rd_T28 l (i : Int)).f1 (rd_T28 l (i : Int)).f2 = true := hc
        simp only [this, Option.bind_some, Bool.not_true, Bool.false_eq_true, if_false]
        rw [w64 (by omega) (by omega)]; rfl
      · rw [hd, h2]; simp [hc]
theorem IsPuzzle_ev (l : List S28) : Ev (fun k => impl_IsPuzzle.f k l) (good l) := by
  unfold impl_IsPuzzle.f good
  by_cases h : l.length ≤ 6
  · obtain ⟨r, h1, h2⟩ := index_ev l h l.length 0 (by omega)
    refine Ev.cong (g := fun k => (slices_ContainsFunc_at_impl_IsPuzzle_1.f k l).bind fun t202 => (some (!t202))) ?_ (fun k => if_pos (by omega))
    refine Ev.bind (v := decide (r ≥ 0)) ?_ (Ev.all fun _ => ?_)
    · unfold slices_ContainsFunc_at_impl_IsPuzzle_1.f slices_IndexFunc_at_impl_IsPuzzle_1.f
      exact Ev.bind h1 (Ev.all fun _ => rfl)
    · rw [h2]; simp [h]
  · exact Ev.all fun k => by rw [if_neg (by omega)]; simp [h]
theorem pzGood_ev (l : List S28) : Ev (fun k => spec_pzGood.f k l) (good l) := by
  unfold spec_pzGood.f good
  by_cases h : l.length ≤ 6
  · refine Ev.cong (g := fun k => spec_pzGood.l0 k l (l.length : Int) 0) ?_ (fun k => if_neg (by omega))
    suffices hh : ∀ n i : Nat, l.length = i + n → Ev (fun k => spec_pzGood.l0 k l (l.length : Int) (i : Int)) ((l.drop i).all okc) by
      have := hh l.length 0 (by omega); simpa [h] using this
    intro n
    induction n with
    | zero =>
      intro i hi
      refine Ev.step (g := fun _ => some true) (Ev.all fun _ => ?_) (fun k => ?_)
      · rw [List.drop_of_length_le (by omega)]; rfl
      · simp only [spec_pzGood.l0]; rw [if_neg (by omega)]
    | succ n ih =>
      intro i hi
      have hil : i < l.length := by omega
      have hd := rd_drop hil
      cases hc : okc (rd_T28 l (i : Int))
      · refine Ev.step (g := fun _ => some false) (Ev.all fun _ => by rw [hd]; simp [hc]) (fun k => ?_)
        simp only [spec_pzGood.l0, pzClue_eq]
        rw [if_pos (by omega), if_pos (by omega), if_pos (by omega)]
        have : clue (rd_T28 l (i : Int)).f0 (rd_T28 l (i : Int)).f1 (rd_T28 l (i : Int)).f2 = false := hc
        simp [this]
      · have := ih (i + 1) (by omega)
        rw [hd]; simp only [List.all_cons, hc, Bool.true_and]
        refine Ev.step this (fun k => ?_)
        simp only [spec_pzGood.l0, pzClue_eq]
        rw [if_pos (by omega), if_pos (by omega), if_pos (by omega)]
        have : clue (rd_T28 l (i : Int)).f0 (rd_T28 l (i : Int)).f1 (rd_T28 l (i : Int)).f2 = true := hc
        simp only [this, Option.bind_some, if_true]
        rw [w64 (by omega) (by omega)]; rfl
  · exact Ev.all fun k => by rw [if_pos (by omega)]; simp [h]
end Go.Proofs.Ytlpjooijkeadbaa.PureA
/- The puzzle's answers as plain values: all snails that fit, puzzles made harder, clues added and dropped. -/
namespace Go.Proofs.Ytlpjooijkeadbaa.PureA
open Go Go.RowKit Go.Proofs.Ytlpjooijkeadbaa.PH Go.Proofs.YtlpjooijkeadbaaW.PrintWords Go.Proofs.YtlpjooijkeadbaaW.PrintLast Go.Proofs.YtlpjooijkeadbaaW.PrintMore
set_option linter.unusedVariables false
set_option linter.unusedSimpArgs false
/-! ### Rows of snails -/
def row (p : Int → Int → Bool) (u : Int) : Nat → Int → List S23
  | 0, _ => []
  | n + 1, d => (if p u d then [(⟨u, d⟩ : S23)] else []) ++ row p u n (d + 1)
def rows (p : Int → Int → Bool) : Nat → Int → List S23
  | 0, _ => []
  | n + 1, u => row p u 13 0 ++ rows p n (u + 1)
def fits (l : List S28) (u d : Int) : Bool := l.all fun c => fit c u d
def sols (l : List S28) : List S23 := rows (fits l) 12 1
theorem row_sub {p q : Int → Int → Bool} (h : ∀ u d, p u d = true → q u d = true) (u : Int) : ∀ n d, (row p u n d).Sublist (row q u n d)
  | 0, _ => List.Sublist.refl _
  | n + 1, d => by
    unfold row
    refine List.Sublist.append ?_ (row_sub h u n (d + 1))
    cases hp : p u d
    · simp
    · simp [h u d hp]
theorem rows_sub {p q : Int → Int → Bool} (h : ∀ u d, p u d = true → q u d = true) : ∀ n u, (rows p n u).Sublist (rows q n u)
  | 0, _ => List.Sublist.refl _
  | n + 1, u => by unfold rows; exact List.Sublist.append (row_sub h u 13 0) (rows_sub h n (u + 1))
theorem row_len (p : Int → Int → Bool) (u : Int) : ∀ n d, (row p u n d).length ≤ n
  | 0, _ => Nat.le_refl _
  | n + 1, d => by
    unfold row
    have := row_len p u n (d + 1)
    rw [List.length_append]; split <;> simp <;> omega
theorem sols_sub {a b : List S28} (h : ∀ c ∈ b, c ∈ a) : (sols a).Sublist (sols b) := by
  refine rows_sub (fun u d hp => ?_) _ _
  simp only [fits, List.all_eq_true] at hp ⊢
  exact fun c hc => hp c (h c hc)
def okl (l : List S28) : Prop := ∀ c ∈ l, okc c = true
theorem fit_of {c : S28} {u d : Int} (hc : okc c = true) (h : 1 ≤ u ∧ u ≤ 12 ∧ 0 ≤ d ∧ d ≤ 12) : impl_doesFit.f c.f0 c.f1 c.f2 u d = some (fit c u d) := doesFit_eq (hid_mk h) hc
theorem pfit_of {c : S28} {u d : Int} (hc : okc c = true) (h : 1 ≤ u ∧ u ≤ 12 ∧ 0 ≤ d ∧ d ≤ 12) : spec_pzFits.f c.f0 c.f1 c.f2 u d = some (fit c u d) := pzFits_eq (hid_mk h) hc
theorem ix_eq {u d : Int} (h : 1 ≤ u ∧ u ≤ 12 ∧ 0 ≤ d ∧ d ≤ 12) : ∀ (l : List S28) (i : Int), okl l → 0 ≤ i → ∃ r, slices_ContainsFunc_at_impl_solutions_1.ix l i u d = some r ∧ decide (0 ≤ r) = !fits l u d
  | [], i, _, _ => ⟨-1, rfl, rfl⟩
  | c :: cs, i, hl, hi => by
    have hc := fit_of (hl c (by simp)) h
    simp only [slices_ContainsFunc_at_impl_solutions_1.ix, hc, Option.bind_some, fits, List.all_cons]
    cases fit c u d
    · exact ⟨i, by simp, by simpa using hi⟩
    · obtain ⟨r, h1, h2⟩ := ix_eq h cs (i + 1) (fun x hx => hl x (by simp [hx])) (by omega)
      exact ⟨r, by simpa using h1, by simpa [fits] using h2⟩
theorem contains_eq {u d : Int} (h : 1 ≤ u ∧ u ≤ 12 ∧ 0 ≤ d ∧ d ≤ 12) {l : List S28} (hl : okl l) : slices_ContainsFunc_at_impl_solutions_1.f l u d = some (!fits l u d) := by
  obtain ⟨r, h1, h2⟩ := ix_eq h l 0 hl (by omega)
  unfold slices_ContainsFunc_at_impl_solutions_1.f; rw [h1, ← h2]; rfl
theorem implRow {l : List S28} (hl : okl l) {u : Int} (hu : 1 ≤ u ∧ u ≤ 12) {v : List S23} : ∀ (n : Nat) (d : Int) (acc : List S23), d + n = 13 → 0 ≤ d → acc.length ≤ 13 * 13 - n →
    Ev (fun k => impl_solutions.l0 k l (acc ++ row (fits l) u n d) (u + 1)) v → Ev (fun k => impl_solutions.l1 k l acc u d) v
  | 0, d, acc, h, h0, ha, hv => by
    refine Ev.step hv (fun k => ?_)
    simp only [impl_solutions.l1]; rw [if_neg (by omega), w64 (by omega) (by omega)]; simp [row]
  | n + 1, d, acc, h, h0, ha, hv => by
    have hc := contains_eq (u := u) (d := d) ⟨hu.1, hu.2, h0, by omega⟩ hl
    cases hp : fits l u d
    · refine Ev.step (implRow hl hu n (d + 1) acc (by omega) (by omega) (by omega) (by simpa [row, hp] using hv)) (fun k => ?_)
      simp only [impl_solutions.l1]; rw [if_pos (by omega), hc, hp]
      simp only [Option.bind_some, Bool.not_false, if_true]; rw [w64 (by omega) (by omega)]
    · refine Ev.step (implRow hl hu n (d + 1) (acc ++ [⟨u, d⟩]) (by omega) (by omega) (by simp; omega) (by simpa [row, hp] using hv)) (fun k => ?_)
      simp only [impl_solutions.l1]; rw [if_pos (by omega), hc, hp]
      simp only [Option.bind_some, Bool.not_true, Bool.false_eq_true, if_false]
      rw [if_pos (by omega), w64 (by omega) (by omega)]
theorem implRows {l : List S28} (hl : okl l) : ∀ (n : Nat) (u : Int) (acc : List S23), u + n = 13 → 1 ≤ u → acc.length ≤ 13 * (12 - n) → Ev (fun k => impl_solutions.l0 k l acc u) (acc ++ rows (fits l) n u)
  | 0, u, acc, h, h1, ha => by
    refine Ev.step (g := fun _ => some acc) (Ev.all fun _ => by simp [rows]) (fun k => ?_)
    simp only [impl_solutions.l0]; rw [if_neg (by omega)]
  | n + 1, u, acc, h, h1, ha => by
    have hr := row_len (fits l) u 13 0
    have := implRows hl n (u + 1) (acc ++ row (fits l) u 13 0) (by omega) (by omega) (by rw [List.length_append]; omega)
    rw [List.append_assoc] at this
    refine Ev.step (implRow hl ⟨h1, by omega⟩ 13 0 acc (by omega) (by omega) (by omega) this) (fun k => ?_)
    simp only [impl_solutions.l0]; rw [if_pos (by omega)]
theorem solutions_ev {l : List S28} (hl : okl l) : Ev (fun k => impl_solutions.f k l) (sols l) := by
  unfold impl_solutions.f; simpa [sols] using implRows hl 12 1 [] (by omega) (by omega) (by simp)
/-! ### The reference's -/
theorem specFlag {l : List S28} (hl : okl l) (hs : l.length ≤ 6) {u d : Int} (h : 1 ≤ u ∧ u ≤ 12 ∧ 0 ≤ d ∧ d ≤ 12) {acc v : List S23} : ∀ (n i : Nat) (b : Bool), l.length = i + n →
    Ev (fun k => spec_pzAll.l2 k l acc u d (b && (l.drop i).all fun c => fit c u d) l (l.length : Int) (l.length : Int) u d) v → Ev (fun k => spec_pzAll.l2 k l acc u d b l (l.length : Int) (i : Int) u d) v
  | 0, i, b, hn, hv => by
    have : i = l.length := by omega
    subst this; simpa using hv
  | n + 1, i, b, hn, hv => by
    have hi : i < l.length := by omega
    have hd := rd_drop hi
    have hm : rd_T28 l (i : Int) ∈ l := by simp [rd_T28, hi]
    have hc := pfit_of (hl _ hm) h
    cases b
    · refine Ev.step (specFlag hl hs h n (i + 1) false (by omega) (by simpa using hv)) (fun k => ?_)
      simp only [spec_pzAll.l2]; rw [if_pos (by omega), if_pos (by omega), if_pos (by omega)]
      simp only [Bool.false_eq_true, if_false]; rw [w64 (by omega) (by omega)]; rfl
    · refine Ev.step (specFlag hl hs h n (i + 1) (fit (rd_T28 l (i : Int)) u d) (by omega) (by rw [hd] at hv; simpa using hv)) (fun k => ?_)
      simp only [spec_pzAll.l2]; rw [if_pos (by omega), if_pos (by omega), if_pos (by omega)]
      simp only [if_true, hc, Option.bind_some]; rw [w64 (by omega) (by omega)]; rfl
theorem specRow {l : List S28} (hl : okl l) (hs : l.length ≤ 6) {u : Int} (hu : 1 ≤ u ∧ u ≤ 12) {v : List S23} : ∀ (n : Nat) (d : Int) (acc : List S23), d + n = 13 → 0 ≤ d → acc.length ≤ 13 * 13 - n →
    Ev (fun k => spec_pzAll.l0 k l (acc ++ row (fits l) u n d) (u + 1)) v → Ev (fun k => spec_pzAll.l1 k l acc u d) v
  | 0, d, acc, h, h0, ha, hv => by
    refine Ev.step hv (fun k => ?_)
    simp only [spec_pzAll.l1]; rw [if_neg (by omega), w64 (by omega) (by omega)]; simp [row]
  | n + 1, d, acc, h, h0, ha, hv => by
    have hb : 1 ≤ u ∧ u ≤ 12 ∧ 0 ≤ d ∧ d ≤ 12 := ⟨hu.1, hu.2, h0, by omega⟩
    refine Ev.step (g := fun k => spec_pzAll.l2 k l acc u d true l (l.length : Int) 0 u d) ?_ (fun k => by simp only [spec_pzAll.l1]; rw [if_pos (by omega)])
    refine specFlag hl hs hb l.length 0 true (by omega) ?_
    simp only [Bool.true_and, List.drop_zero]
    cases hp : fits l u d
    · refine Ev.step (specRow hl hs hu n (d + 1) acc (by omega) (by omega) (by omega) (by simpa [row, hp] using hv)) (fun k => ?_)
      simp only [spec_pzAll.l2]; rw [if_neg (by omega)]
      have : (l.all fun c => fit c u d) = false := hp
      rw [this]; simp only [Bool.false_eq_true, if_false]; rw [w64 (by omega) (by omega)]
    · refine Ev.step (specRow hl hs hu n (d + 1) (acc ++ [⟨u, d⟩]) (by omega) (by omega) (by simp; omega) (by simpa [row, hp] using hv)) (fun k => ?_)
      simp only [spec_pzAll.l2]; rw [if_neg (by omega)]
      have : (l.all fun c => fit c u d) = true := hp
      rw [this]; simp only [if_true]; rw [if_pos (by omega), w64 (by omega) (by omega)]
theorem specRows {l : List S28} (hl : okl l) (hs : l.length ≤ 6) : ∀ (n : Nat) (u : Int) (acc : List S23), u + n = 13 → 1 ≤ u → acc.length ≤ 13 * (12 - n) → Ev (fun k => spec_pzAll.l0 k l acc u) (acc ++ rows (fits l) n u)
  | 0, u, acc, h, h1, ha => by
    refine Ev.step (g := fun _ => some acc) (Ev.all fun _ => by simp [rows]) (fun k => ?_)
    simp only [spec_pzAll.l0]; rw [if_neg (by omega)]
  | n + 1, u, acc, h, h1, ha => by
    have hr := row_len (fits l) u 13 0
    have := specRows hl hs n (u + 1) (acc ++ row (fits l) u 13 0) (by omega) (by omega) (by rw [List.length_append]; omega)
    rw [List.append_assoc] at this
    refine Ev.step (specRow hl hs ⟨h1, by omega⟩ 13 0 acc (by omega) (by omega) (by omega) this) (fun k => ?_)
    simp only [spec_pzAll.l0]; rw [if_pos (by omega)]
theorem pzAll_ev {l : List S28} (hl : okl l) (hs : l.length ≤ 6) : Ev (fun k => spec_pzAll.f k l) (sols l) := by
  unfold spec_pzAll.f; simpa [sols] using specRows hl hs 12 1 [] (by omega) (by omega) (by simp)
theorem pzSolved_ev {l : List S28} (hl : okl l) (hs : l.length ≤ 6) : Ev (fun k => spec_pzSolved.f k l) (decide ((sols l).length = 1)) := by
  unfold spec_pzSolved.f
  refine Ev.bind (pzAll_ev hl hs) (Ev.all fun _ => ?_)
  congr 1
  by_cases h : (sols l).length = 1 <;> simp [h] <;> omega
/-! ### One clue less -/
theorem good_len {l : List S28} (h : good l = true) : l.length ≤ 6 := by simp only [good, Bool.and_eq_true, decide_eq_true_eq] at h; exact h.1
theorem good_ok {l : List S28} (h : good l = true) : okl l := by simp only [good, Bool.and_eq_true, List.all_eq_true] at h; exact h.2
theorem good_mk {l : List S28} (h : l.length ≤ 6) (h2 : okl l) : good l = true := by simp only [good, Bool.and_eq_true, decide_eq_true_eq, List.all_eq_true]; exact ⟨h, h2⟩
theorem erase_mem {l : List S28} {i : Nat} {c : S28} (h : c ∈ l.eraseIdx i) : c ∈ l := (List.eraseIdx_sublist l i).subset h
theorem good_erase {l : List S28} (h : good l = true) (i : Nat) : good (l.eraseIdx i) = true :=
  good_mk (Nat.le_trans (List.eraseIdx_sublist l i).length_le (good_len h)) (fun c hc => good_ok h c (erase_mem hc))
theorem clone_eq {l : List S28} (h : l.length < 5864062014805) : impl_Clue_47.f l = some l := by unfold impl_Clue_47.f; simp [h]
theorem without_eq {l : List S28} (hs : l.length ≤ 6) {i : Nat} (hi : i < l.length) : impl_withoutClue.f l (i : Int) = some (l.eraseIdx i) := by
  unfold impl_withoutClue.f; rw [if_pos ⟨by omega, by omega⟩, clone_eq (by omega)]; simp
theorem pzWithout_eq {l : List S28} (hs : l.length ≤ 6) {i : Nat} (hi : i < l.length) : spec_pzWithout.f l (i : Int) = some (l.eraseIdx i) := by
  unfold spec_pzWithout.f
  have e : wrap64 ((i : Int) + 1) = ((i + 1 : Nat) : Int) := w64 (by omega) (by omega)
  have h1 : (([] : List S28).length + (l.take (i : Int).toNat).length) < 5864062014805 := by rw [List.length_take, List.length_nil]; omega
  have h2 : (([] : List S28) ++ l.take (i : Int).toNat).length + (l.drop ((i + 1 : Nat) : Int).toNat).length < 5864062014805 := by rw [List.nil_append, List.length_take, List.length_drop]; omega
  rw [Option.bind_some, if_pos (by omega), if_pos (by omega), Option.bind_some, if_pos h1, Option.bind_some, e, if_pos (by omega), if_pos (by omega), Option.bind_some, if_pos h2, List.eraseIdx_eq_take_drop_succ]
  rfl
theorem erase_erase {l : List S28} : ∀ {i j : Nat}, j < i → (l.eraseIdx i).eraseIdx j = (l.eraseIdx j).eraseIdx (i - 1) := by
  induction l with
  | nil => intros; simp
  | cons a l ih =>
    intro i j h
    obtain ⟨m, rfl⟩ : ∃ m, i = m + 1 := ⟨i - 1, by omega⟩
    cases j with
    | zero => simp
    | succ j =>
      obtain ⟨q, rfl⟩ : ∃ q, m = q + 1 := ⟨m - 1, by omega⟩
      simp only [List.eraseIdx_cons_succ, Nat.add_sub_cancel]
      rw [ih (by omega)]; simp
theorem harder_ev : ∀ (n : Nat) (l : List S28) (i : Nat), good l = true → l.length = i + n → (sols l).length = 1 → (∀ j, j < i → (sols (l.eraseIdx j)).length ≠ 1) →
    ∃ h, Ev (fun k => impl_HarderPuzzle.l0 k l (i : Int)) (h, true) ∧ Ev (fun k => spec_HarderPuzzle.l0 k l (i : Int)) (h, true) ∧ h.Sublist l ∧ (sols h).length = 1 ∧ ∀ j, j < h.length → (sols (h.eraseIdx j)).length ≠ 1
  | 0, l, i, hg, hn, h1, hj => by
    refine ⟨l, Ev.step (g := fun _ => some (l, true)) (Ev.all fun _ => rfl) (fun k => ?_), Ev.step (g := fun _ => some (l, true)) (Ev.all fun _ => rfl) (fun k => ?_), List.Sublist.refl _, h1, fun j hjl => hj j (by omega)⟩
    · simp only [impl_HarderPuzzle.l0]; rw [if_neg (by omega)]
    · simp only [spec_HarderPuzzle.l0]; rw [if_neg (by omega)]
  | n + 1, l, i, hg, hn, h1, hj => by
    have hs := good_len hg
    have hi : i < l.length := by omega
    have hgt := good_erase hg i
    have e1 := without_eq hs hi
    have e2 := pzWithout_eq hs hi
    have v1 := solutions_ev (good_ok hgt)
    have v2 := pzSolved_ev (good_ok hgt) (good_len hgt)
    by_cases hq : (sols (l.eraseIdx i)).length = 1
    · have hlen : (l.eraseIdx i).length = i + n := by rw [List.length_eraseIdx, if_pos hi]; omega
      obtain ⟨h, a, b, c, d, e⟩ := harder_ev n (l.eraseIdx i) i hgt hlen hq (fun j hji => by
        intro hbad
        have s1 : (sols (l.eraseIdx j)).Sublist (sols ((l.eraseIdx i).eraseIdx j)) := sols_sub (fun c hc => by rw [erase_erase hji] at hc; exact erase_mem hc)
        have s2 : (sols l).Sublist (sols (l.eraseIdx j)) := sols_sub (fun c hc => erase_mem hc)
        have := s1.length_le; have := s2.length_le; have := hj j hji
        omega)
      refine ⟨h, Ev.stepB v1 a (fun k hk => ?_), Ev.stepB v2 b (fun k hk => ?_), c.trans (List.eraseIdx_sublist l i), d, e⟩
      · simp only [impl_HarderPuzzle.l0]; rw [if_pos (by omega), e1]; simp only [Option.bind_some]; rw [hk]; simp only [Option.bind_some]; rw [if_pos (by omega)]
      · simp only [spec_HarderPuzzle.l0]; rw [if_pos (by omega), e2]; simp only [Option.bind_some]; rw [hk]; simp only [Option.bind_some]; rw [if_pos (by simpa using hq)]
    · obtain ⟨h, a, b, c, d, e⟩ := harder_ev n l (i + 1) hg (by omega) h1 (fun j hji => by
        by_cases hj2 : j = i
        · subst hj2; exact hq
        · exact hj j (by omega))
      have ew : wrap64 ((i : Int) + 1) = ((i + 1 : Nat) : Int) := w64 (by omega) (by omega)
      refine ⟨h, Ev.stepB v1 a (fun k hk => ?_), Ev.stepB v2 b (fun k hk => ?_), c, d, e⟩
      · simp only [impl_HarderPuzzle.l0]; rw [if_pos (by omega), e1]; simp only [Option.bind_some]; rw [hk]; simp only [Option.bind_some]; rw [if_neg (by omega), ew]
      · simp only [spec_HarderPuzzle.l0]; rw [if_pos (by omega), e2]; simp only [Option.bind_some]; rw [hk]; simp only [Option.bind_some]; rw [if_neg (by simpa using hq), ew]
theorem needless_ev {h : List S28} (hg : good h = true) (hn : ∀ j, j < h.length → (sols (h.eraseIdx j)).length ≠ 1) : ∀ (n i : Nat), h.length = i + n → Ev (fun k => impl_NeedlessClues.l0 k 1 [] (h.length : Int) (i : Int) h) ([], true)
  | 0, i, hl => by
    refine Ev.step (g := fun _ => some (([] : List Int), true)) (Ev.all fun _ => rfl) (fun k => ?_)
    simp only [impl_NeedlessClues.l0]; rw [if_neg (by omega)]
  | n + 1, i, hl => by
    have hs := good_len hg
    have hi : i < h.length := by omega
    have ew : wrap64 ((i : Int) + 1) = ((i + 1 : Nat) : Int) := w64 (by omega) (by omega)
    refine Ev.stepB (solutions_ev (good_ok (good_erase hg i))) (needless_ev hg hn n (i + 1) (by omega)) (fun k hk => ?_)
    simp only [impl_NeedlessClues.l0]; rw [if_pos (by omega), without_eq hs hi]; simp only [Option.bind_some]; rw [hk]; simp only [Option.bind_some]
    rw [if_neg (by have := hn i hi; omega), ew]
end Go.Proofs.Ytlpjooijkeadbaa.PureA
/- The law 'FnSnailsHiddenOfAll' as a plain law: whatever is given, what its walk computes is true. -/
namespace Go.Proofs.Ytlpjooijkeadbaa.PureA
open Go Go.RowKit Go.Proofs.Ytlpjooijkeadbaa.PH Go.Proofs.YtlpjooijkeadbaaW.PrintWords Go.Proofs.YtlpjooijkeadbaaW.PrintLast Go.Proofs.YtlpjooijkeadbaaW.PrintMore
set_option linter.unusedVariables false
set_option linter.unusedSimpArgs false
/-! ### Puzzles that are made -/
def nx (x : Int) : Int := Int.tmod (x * 227 + 2027) 10007
theorem nx_range {x : Int} (h : 0 ≤ x) : 0 ≤ nx x ∧ nx x ≤ 10006 := by
  unfold nx
  rw [Int.tmod_eq_emod_of_nonneg (by omega)]; omega
theorem nxw {x : Int} (h : 0 ≤ x ∧ x ≤ 10006) : Int.tmod (wrap64 ((wrap64 (x * 227)) + 2027)) 10007 = nx x := by
  rw [w64 (x := x * 227) (by omega) (by omega), w64 (by omega) (by omega)]; rfl
theorem pzNext_eq {x : Int} (h : 0 ≤ x ∧ x ≤ 10006) : spec_pzNext.f x = some (nx x) := by
  unfold spec_pzNext.f; rw [Int.mul_comm 227 x, nxw h]
theorem tm {x n : Int} (h : 0 ≤ x) (hn : 0 < n) : 0 ≤ Int.tmod x n ∧ Int.tmod x n < n := by
  rw [Int.tmod_eq_emod_of_nonneg h]; exact ⟨Int.emod_nonneg _ (by omega), Int.emod_lt_of_pos _ hn⟩
def arg (t p : Int) : Int := if t = 0 ∨ t = 1 then Int.tmod p 100 + 1 else if t = 3 then Int.tmod p 8 + 2 else 0
def mk (t p u d : Int) : S28 := ⟨t, arg t p, tell t (arg t p) u d⟩
theorem arg_b {t p : Int} (ht : 0 ≤ t ∧ t < 5) (hp : 0 ≤ p) : 0 ≤ arg t p ∧ arg t p ≤ 100 ∧ (t = 3 → arg t p ≠ 0) := by
  have a := tm hp (n := 100) (by omega); have b := tm hp (n := 8) (by omega)
  unfold arg; split
  · omega
  · split <;> omega
theorem tell_ok {t a u d : Int} (h : 1 ≤ u ∧ u ≤ 12 ∧ 0 ≤ d ∧ d ≤ 12) (ht : 0 ≤ t ∧ t < 5) (h01 : t = 0 ∨ t = 1 → 1 ≤ a ∧ a ≤ 100) (h3 : t = 3 → 2 ≤ a ∧ a ≤ 9) (h0 : t = 2 ∨ t = 4 → a = 0) : clue t a (tell t a u d) = true := by
  unfold clue tell
  by_cases c0 : t = 0
  · subst c0; have := h01 (.inl rfl)
    simp only [if_true, inb, Bool.and_eq_true, decide_eq_true_eq]
    refine ⟨⟨by omega, by omega⟩, ?_⟩
    split
    · omega
    split
    · omega
    have b := tdivB (n := a - u + (u - d) - 1) (q := u - d) (by omega) (by omega)
    omega
  by_cases c1 : t = 1
  · subst c1; have := h01 (.inr rfl)
    simp only [if_true, inb, Bool.and_eq_true, decide_eq_true_eq, if_neg c0]
    refine ⟨⟨by omega, by omega⟩, ?_⟩
    have hm : 0 ≤ mx 0 (u - d) ∧ mx 0 (u - d) ≤ 12 := by unfold mx; split <;> omega
    have b := Int.mul_nonneg hm.1 (show 0 ≤ a - 1 by omega)
    unfold mn; split <;> omega
  by_cases c2 : t = 2
  · have := h0 (.inl c2); simp [c2, inb, this]; omega
  by_cases c3 : t = 3
  · have := h3 c3
    simp only [c3, inb]; simp
    refine ⟨by omega, ?_⟩
    split <;> omega
  have c4 : t = 4 := by omega
  have := h0 (.inr c4); simp [c4, inb, this]; omega
theorem mk_ok {t p u d : Int} (h : 1 ≤ u ∧ u ≤ 12 ∧ 0 ≤ d ∧ d ≤ 12) (ht : 0 ≤ t ∧ t < 5) (hp : 0 ≤ p) : okc (mk t p u d) = true := by
  have a := tm hp (n := 100) (by omega); have b := tm hp (n := 8) (by omega)
  show clue t (arg t p) (tell t (arg t p) u d) = true
  refine tell_ok h ht (fun h1 => ?_) (fun h1 => ?_) (fun h1 => ?_)
  · unfold arg; rw [if_pos h1]; omega
  · unfold arg; rw [if_neg (by omega), if_pos h1]; omega
  · unfold arg; rw [if_neg (by omega), if_neg (by omega)]
theorem mk_fit (t p u d : Int) : fit (mk t p u d) u d = true := by simp [fit, mk]
def gen (u d : Int) : Nat → Int → List S28
  | 0, _ => []
  | n + 1, x => mk (Int.tmod (nx x) 5) (nx (nx x)) u d :: gen u d n (nx (nx x))
theorem gen_len (u d : Int) : ∀ n x, (gen u d n x).length = n
  | 0, _ => rfl
  | n + 1, x => by simp [gen, gen_len u d n]
theorem gen_all {u d : Int} (h : 1 ≤ u ∧ u ≤ 12 ∧ 0 ≤ d ∧ d ≤ 12) : ∀ n x, 0 ≤ x → ∀ c ∈ gen u d n x, okc c = true ∧ fit c u d = true
  | 0, _, _ => fun c hc => by simp [gen] at hc
  | n + 1, x, hx => fun c hc => by
    have h1 := nx_range hx; have h2 := nx_range h1.1
    simp only [gen, List.mem_cons] at hc
    rcases hc with rfl | hc
    · exact ⟨mk_ok h (tm h1.1 (by omega)) h2.1, mk_fit _ _ _ _⟩
    · exact gen_all h n _ h2.1 c hc
theorem j2_eq {t p u d N i : Int} {acc : List S28} {k : Nat} (h : 1 ≤ u ∧ u ≤ 12 ∧ 0 ≤ d ∧ d ≤ 12) (ht : 0 ≤ t ∧ t < 5) (hp : 0 ≤ p) (ha : acc.length ≤ 6) :
    impl_MakePuzzle.j2 (k + 1) p N i t (decide (t = 0 ∨ t = 1)) u d acc t 0 0 = impl_MakePuzzle.l0 k p N (wrap64 (i + 1)) u d (acc ++ [mk t p u d]) := by
  have a := tm hp (n := 100) (by omega); have b := tm hp (n := 8) (by omega)
  have ab := arg_b ht hp
  have hb : arg t p = if t = 0 ∨ t = 1 then Int.tmod p 100 + 1 else if t = 3 then Int.tmod p 8 + 2 else 0 := rfl
  simp only [impl_MakePuzzle.j2]
  by_cases c : t = 0 ∨ t = 1
  · rw [if_pos c] at hb
    rw [if_pos (by simpa using c), w64 (by omega) (by omega), ← hb, toldBy_eq h ab.1 ab.2.1 ab.2.2, Option.bind_some, if_pos (by omega)]; rfl
  · rw [if_neg c] at hb
    rw [if_neg (by simpa using c)]
    by_cases c3 : t = 3
    · rw [if_pos c3] at hb
      rw [if_pos c3, w64 (by omega) (by omega), ← hb, toldBy_eq h ab.1 ab.2.1 ab.2.2, Option.bind_some, if_pos (by omega)]; rfl
    · rw [if_neg c3] at hb
      rw [if_neg c3, toldBy_eq h (by omega) (by omega) (by omega), Option.bind_some, if_pos (by omega)]
      unfold mk; rw [hb]
theorem implGen {u d : Int} (h : 1 ≤ u ∧ u ≤ 12 ∧ 0 ≤ d ∧ d ≤ 12) {N : Nat} (hN : N ≤ 6) : ∀ (n i : Nat) (x : Int) (acc : List S28), i + n = N → 0 ≤ x ∧ x ≤ 10006 → acc.length = i →
    Ev (fun k => impl_MakePuzzle.l0 k x (N : Int) (i : Int) u d acc) (acc ++ gen u d n x, true)
  | 0, i, x, acc, hi, hx, ha => by
    refine Ev.step (g := fun _ => some (acc, true)) (Ev.all fun _ => by simp [gen]) (fun k => ?_)
    simp only [impl_MakePuzzle.l0]; rw [if_neg (by omega)]
  | n + 1, i, x, acc, hi, hx, ha => by
    have h1 := nx_range hx.1; have h2 := nx_range h1.1
    have ht := tm h1.1 (n := 5) (by omega)
    have := implGen h hN n (i + 1) (nx (nx x)) (acc ++ [mk (Int.tmod (nx x) 5) (nx (nx x)) u d]) (by omega) h2 (by simp [ha])
    rw [List.append_assoc] at this
    refine Ev.step (g := fun k => impl_MakePuzzle.j2 k (nx (nx x)) (N : Int) (i : Int) (Int.tmod (nx x) 5) (decide (Int.tmod (nx x) 5 = 0 ∨ Int.tmod (nx x) 5 = 1)) u d acc (Int.tmod (nx x) 5) 0 0) (Ev.step this (fun k => ?_)) (fun k => ?_)
    · rw [j2_eq h ht h2.1 (by omega), w64 (by omega) (by omega)]; rfl
    · simp only [impl_MakePuzzle.l0]; rw [if_pos (by omega), nxw hx, nxw h1]
      by_cases c : Int.tmod (nx x) 5 = 0
      · rw [if_pos c, c]; rfl
      · rw [if_neg c]; congr 1
        by_cases c1 : Int.tmod (nx x) 5 = 1
        · rw [c1]; rfl
        · simp [c, c1]
theorem pzOf_ev {t p u d : Int} (h : 1 ≤ u ∧ u ≤ 12 ∧ 0 ≤ d ∧ d ≤ 12) (ht : 0 ≤ t ∧ t < 5) (hp : 0 ≤ p) : Ev (fun k => spec_pzOf.f k t p u d) ((mk t p u d).f0, (mk t p u d).f1, (mk t p u d).f2) := by
  have a := tm hp (n := 100) (by omega); have b := tm hp (n := 8) (by omega)
  have ab := arg_b ht hp
  have hb : arg t p = if t = 0 ∨ t = 1 then Int.tmod p 100 + 1 else if t = 3 then Int.tmod p 8 + 2 else 0 := rfl
  have hj : Ev (fun k => spec_pzOf.j0 k t p 0 t (decide (t = 0 ∨ t = 1)) u d) ((mk t p u d).f0, (mk t p u d).f1, (mk t p u d).f2) := by
    refine Ev.step (g := fun _ => some ((mk t p u d).f0, (mk t p u d).f1, (mk t p u d).f2)) (Ev.all fun _ => rfl) (fun k => ?_)
    simp only [spec_pzOf.j0]
    by_cases c : t = 0 ∨ t = 1
    · rw [if_pos c] at hb
      rw [if_pos (by simpa using c), w64 (by omega) (by omega), ← hb, pzValue_eq h ab.1 ab.2.1 ab.2.2]; rfl
    · rw [if_neg c] at hb
      rw [if_neg (by simpa using c)]
      by_cases c3 : t = 3
      · rw [if_pos c3] at hb
        rw [if_pos c3, w64 (by omega) (by omega), ← hb, pzValue_eq h ab.1 ab.2.1 ab.2.2]; rfl
      · rw [if_neg c3] at hb
        rw [if_neg c3, pzValue_eq h (by omega) (by omega) (by omega)]
        unfold mk; rw [hb]; rfl
  refine Ev.cong hj (fun k => ?_)
  unfold spec_pzOf.f
  by_cases c : t = 0
  · rw [if_pos c, c]; rfl
  · rw [if_neg c]; congr 1
    by_cases c1 : t = 1
    · rw [c1]; rfl
    · simp [c, c1]
theorem specGen {u d : Int} (h : 1 ≤ u ∧ u ≤ 12 ∧ 0 ≤ d ∧ d ≤ 12) : ∀ (n : Nat) (x : Int) (acc : List S28), acc.length + n ≤ 6 → 0 ≤ x ∧ x ≤ 10006 →
    Ev (fun k => spec_MakePuzzle.l0 k (n : Int) x u d acc) (acc ++ gen u d n x, true)
  | 0, x, acc, hi, hx => by
    refine Ev.step (g := fun _ => some (acc, true)) (Ev.all fun _ => by simp [gen]) (fun k => ?_)
    simp only [spec_MakePuzzle.l0]; rw [if_neg (by omega)]
  | n + 1, x, acc, hi, hx => by
    have h1 := nx_range hx.1; have h2 := nx_range h1.1
    have ht := tm h1.1 (n := 5) (by omega)
    have := specGen h n (nx (nx x)) (acc ++ [mk (Int.tmod (nx x) 5) (nx (nx x)) u d]) (by simp; omega) h2
    rw [List.append_assoc] at this
    refine Ev.stepB (pzOf_ev h ht h2.1) this (fun k hk => ?_)
    simp only [spec_MakePuzzle.l0]; rw [if_pos (by omega), pzNext_eq hx, Option.bind_some, pzNext_eq h1, Option.bind_some, hk, Option.bind_some, if_pos (by omega), w64 (by omega) (by omega)]
    congr 1; omega
def made (u d n s : Int) : List S28 × Bool := if hid u d && inb n 0 6 && inb s 0 9999 then (gen u d n.toNat s, true) else ([], false)
theorem inb_of {a l h : Int} (e : inb a l h = true) : l ≤ a ∧ a ≤ h := by simpa [inb] using e
theorem implMake_ev (u d n s : Int) : Ev (fun k => impl_MakePuzzle.f k u d n s) (made u d n s) := by
  have bad : Ev (fun k => impl_MakePuzzle.j0 k n s true u d) (([] : List S28), false) := Ev.step (g := fun _ => some ([], false)) (Ev.all fun _ => rfl) (fun k => by simp [impl_MakePuzzle.j0])
  unfold impl_MakePuzzle.f made
  simp only [isHidden_eq, within_eq, Option.bind_some]
  cases h1 : hid u d
  · simpa using bad
  cases h2 : inb n 0 6
  · simpa using bad
  cases h3 : inb s 0 9999
  · simpa using bad
  have b2 := inb_of h2; have b3 := inb_of h3
  simp only [if_true, Bool.and_self, Bool.not_true]
  have := implGen (hid_of h1) (N := n.toNat) (by omega) n.toNat 0 s [] (by omega) ⟨b3.1, by omega⟩ rfl
  refine Ev.step (by simpa using this) (fun k => ?_)
  simp only [impl_MakePuzzle.j0, Bool.false_eq_true, if_false]
  congr 1; omega
theorem specMake_ev (u d n s : Int) : Ev (fun k => spec_MakePuzzle.f k u d n s) (made u d n s) := by
  have bad : Ev (fun k => spec_MakePuzzle.j0 k n s true u d) (([] : List S28), false) := Ev.step (g := fun _ => some ([], false)) (Ev.all fun _ => rfl) (fun k => by simp [spec_MakePuzzle.j0])
  unfold spec_MakePuzzle.f made
  simp only [pzHidden_eq, l1In_eq, Option.bind_some]
  cases h1 : hid u d
  · simpa using bad
  cases h2 : inb n 0 6
  · simpa using bad
  cases h3 : inb s 0 9999
  · simpa using bad
  have b2 := inb_of h2; have b3 := inb_of h3
  simp only [if_true, Bool.and_self, Bool.not_true]
  have := specGen (hid_of h1) n.toNat s [] (by simp; omega) ⟨b3.1, by omega⟩
  refine Ev.step (by simpa using this) (fun k => ?_)
  simp only [spec_MakePuzzle.j0, Bool.false_eq_true, if_false]
  congr 1; omega
/-! ### What the law compares -/
theorem qClues_ev {l : List S28} (hl : l.length ≤ 6) : Ev (fun k => laws_qClues.f k l l) true := by
  unfold laws_qClues.f
  refine Ev.cong (g := fun k => laws_qClues.l0 k l l (l.length : Int) 0) ?_ (fun k => if_pos rfl)
  suffices hh : ∀ n i : Nat, l.length = i + n → Ev (fun k => laws_qClues.l0 k l l (l.length : Int) (i : Int)) true by exact hh l.length 0 (by omega)
  intro n
  induction n with
  | zero => intro i hi; exact Ev.step (g := fun _ => some true) (Ev.all fun _ => rfl) (fun k => by simp only [laws_qClues.l0]; rw [if_neg (by omega)])
  | succ n ih =>
    intro i hi
    refine Ev.step (ih (i + 1) (by omega)) (fun k => ?_)
    simp only [laws_qClues.l0]; rw [if_pos (by omega), if_pos (by omega), if_pos (by omega), if_pos (by omega), if_neg (by simp), w64 (by omega) (by omega)]; rfl
theorem qSnails_ev {l : List S23} (hl : l.length ≤ 200) : Ev (fun k => laws_qSnails.f k l l) true := by
  unfold laws_qSnails.f
  refine Ev.cong (g := fun k => laws_qSnails.l0 k l l (l.length : Int) 0) ?_ (fun k => if_pos rfl)
  suffices hh : ∀ n i : Nat, l.length = i + n → Ev (fun k => laws_qSnails.l0 k l l (l.length : Int) (i : Int)) true by exact hh l.length 0 (by omega)
  intro n
  induction n with
  | zero => intro i hi; exact Ev.step (g := fun _ => some true) (Ev.all fun _ => rfl) (fun k => by simp only [laws_qSnails.l0]; rw [if_neg (by omega)])
  | succ n ih =>
    intro i hi
    refine Ev.step (ih (i + 1) (by omega)) (fun k => ?_)
    simp only [laws_qSnails.l0]; rw [if_pos (by omega), if_pos (by omega), if_pos (by omega), if_pos (by omega), if_neg (by simp), w64 (by omega) (by omega)]; rfl
theorem good_app (l : List S28) (c : S28) : good (l ++ [c]) = (good l && okc c && decide (l.length ≠ 6)) := by
  simp only [good, List.length_append, List.length_cons, List.length_nil, List.all_append, List.all_cons, List.all_nil, Bool.and_true]
  by_cases h : l.length + 1 ≤ 6 <;> by_cases h2 : l.length ≤ 6 <;> by_cases h3 : l.length = 6 <;> cases okc c <;> cases l.all okc <;> simp [h, h2, h3] <;> omega
def added (l : List S28) (c : S28) : List S28 × Bool := if good (l ++ [c]) then (l ++ [c], true) else ([], false)
theorem implAdd_ev {l : List S28} (hl : l.length + 1 < 5864062014805) (a b c : Int) : Ev (fun k => impl_AddClue.f k l a b c) (added l ⟨a, b, c⟩) := by
  obtain ⟨K, hK⟩ := Ev.get (IsPuzzle_ev (l ++ [⟨a, b, c⟩]))
  refine Ev.mk K (fun k hk => ?_)
  unfold impl_AddClue.f added
  rw [clone_eq (by omega), Option.bind_some, Option.bind_some, if_pos (by simpa using hl), Option.bind_some, hK k hk, Option.bind_some]
  split <;> rfl
theorem specAdd_ev (l : List S28) (a b c : Int) : Ev (fun k => spec_AddClue.f k l a b c) (added l ⟨a, b, c⟩) := by
  obtain ⟨K, hK⟩ := Ev.get (pzGood_ev l)
  refine Ev.mk K (fun k hk => ?_)
  unfold spec_AddClue.f added
  rw [hK k hk, Option.bind_some, good_app]
  cases hg : good l
  · simp
  have hs := good_len hg
  rw [if_pos rfl, pzClue_eq, Option.bind_some]
  have e : okc ⟨a, b, c⟩ = clue a b c := rfl
  rw [e]
  cases hc : clue a b c
  · simp
  rw [if_pos rfl]
  by_cases h6 : l.length = 6
  · rw [if_pos (by omega)]; simp [h6]
  · rw [if_neg (by omega), Option.bind_some, if_pos (by simp; omega), Option.bind_some, Option.bind_some, if_pos (by simp; omega)]; simp [h6]
def dropped (l : List S28) (i : Int) : List S28 × Bool := if good l && inb i 0 ((l.length : Int) - 1) then (l.eraseIdx i.toNat, true) else ([], false)
theorem implDrop_ev (l : List S28) (i : Int) : Ev (fun k => impl_DropClue.f k l i) (dropped l i) := by
  obtain ⟨K, hK⟩ := Ev.get (IsPuzzle_ev l)
  refine Ev.mk K (fun k hk => ?_)
  unfold impl_DropClue.f dropped
  rw [hK k hk, Option.bind_some]
  cases hg : good l
  · simp
  have hs := good_len hg
  rw [if_pos rfl, w64 (by omega) (by omega), within_eq, Option.bind_some]
  cases hi : inb i 0 ((l.length : Int) - 1)
  · simp
  have b := inb_of hi
  have e : i = ((i.toNat : Nat) : Int) := by omega
  rw [if_pos rfl]
  rw [show impl_withoutClue.f l i = some (l.eraseIdx i.toNat) by rw [e]; exact without_eq hs (by omega)]
  rfl
theorem specDrop_ev (l : List S28) (i : Int) : Ev (fun k => spec_DropClue.f k l i) (dropped l i) := by
  obtain ⟨K, hK⟩ := Ev.get (pzGood_ev l)
  refine Ev.mk K (fun k hk => ?_)
  unfold spec_DropClue.f dropped
  rw [hK k hk, Option.bind_some]
  cases hg : good l
  · simp
  have hs := good_len hg
  rw [if_pos rfl, w64 (by omega) (by omega), l1In_eq, Option.bind_some]
  cases hi : inb i 0 ((l.length : Int) - 1)
  · simp
  have b := inb_of hi
  have e : i = ((i.toNat : Nat) : Int) := by omega
  rw [if_pos rfl]
  rw [show spec_pzWithout.f l i = some (l.eraseIdx i.toNat) by rw [e]; exact pzWithout_eq hs (by omega)]
  rfl
theorem added_len (l : List S28) (c : S28) : (added l c).1.length ≤ 6 := by
  unfold added; split
  · rename_i h; exact good_len h
  · simp
theorem dropped_len (l : List S28) (i : Int) : (dropped l i).1.length ≤ 6 := by
  unfold dropped; split
  · rename_i h; simp only [Bool.and_eq_true] at h; exact good_len (good_erase h.1 _)
  · simp
theorem made_len (u d n s : Int) : (made u d n s).1.length ≤ 6 := by
  unfold made; split
  · rename_i h; simp only [Bool.and_eq_true] at h; have := inb_of h.1.2; simp [gen_len]; omega
  · simp
/-! ### Harder puzzles -/
theorem unsolved_ev {l : List S28} (h : ¬ (good l = true ∧ (sols l).length = 1)) : Ev (fun k => impl_HarderPuzzle.f k l) ([], false) ∧ Ev (fun k => spec_HarderPuzzle.f k l) ([], false) := by
  have b1 : Ev (fun k => impl_HarderPuzzle.j0 k true l) (([] : List S28), false) := Ev.step (g := fun _ => some ([], false)) (Ev.all fun _ => rfl) (fun k => by simp [impl_HarderPuzzle.j0])
  have b2 : Ev (fun k => spec_HarderPuzzle.j0 k true l) (([] : List S28), false) := Ev.step (g := fun _ => some ([], false)) (Ev.all fun _ => rfl) (fun k => by simp [spec_HarderPuzzle.j0])
  obtain ⟨K1, h1⟩ := Ev.get (b1); obtain ⟨K2, h2⟩ := Ev.get (b2); obtain ⟨K3, h3⟩ := Ev.get (IsPuzzle_ev l); obtain ⟨K4, h4⟩ := Ev.get (pzGood_ev l)
  cases hg : good l
  · refine ⟨Ev.mk (max K1 K3) (fun k hk => ?_), Ev.mk (max K2 K4) (fun k hk => ?_)⟩
    · unfold impl_HarderPuzzle.f; rw [h3 k (by omega), hg, Option.bind_some, if_neg (by simp)]; exact h1 k (by omega)
    · unfold spec_HarderPuzzle.f; rw [h4 k (by omega), hg, Option.bind_some, if_neg (by simp)]; exact h2 k (by omega)
  · have hq : (sols l).length ≠ 1 := fun e => h ⟨hg, e⟩
    obtain ⟨K5, h5⟩ := Ev.get (solutions_ev (good_ok hg)); obtain ⟨K6, h6⟩ := Ev.get (pzSolved_ev (good_ok hg) (good_len hg))
    refine ⟨Ev.mk (max K1 (max K3 K5)) (fun k hk => ?_), Ev.mk (max K2 (max K4 K6)) (fun k hk => ?_)⟩
    · unfold impl_HarderPuzzle.f; rw [h3 k (by omega), hg, Option.bind_some, if_pos rfl, h5 k (by omega), Option.bind_some, show (((sols l).length : Int) != 1) = true by simp; omega]; exact h1 k (by omega)
    · unfold spec_HarderPuzzle.f; rw [h4 k (by omega), hg, Option.bind_some, if_pos rfl, h6 k (by omega), Option.bind_some, show (!decide ((sols l).length = 1)) = true by simpa using hq]; exact h2 k (by omega)
theorem solved_ev {l : List S28} (hg : good l = true) (hq : (sols l).length = 1) : ∃ h, Ev (fun k => impl_HarderPuzzle.f k l) (h, true) ∧ Ev (fun k => spec_HarderPuzzle.f k l) (h, true) ∧ h.Sublist l ∧ (sols h).length = 1 ∧ ∀ j, j < h.length → (sols (h.eraseIdx j)).length ≠ 1 := by
  have hs := good_len hg
  obtain ⟨h, a, b, c, d, e⟩ := harder_ev l.length l 0 hg (by omega) hq (fun j hj => by omega)
  refine ⟨h, ?_, ?_, c, d, e⟩
  · have a2 : Ev (fun k => impl_HarderPuzzle.j0 k false l) (h, true) := Ev.step a (fun k => by simp only [impl_HarderPuzzle.j0]; rw [if_neg (by simp), clone_eq (by omega), Option.bind_some]; rfl)
    obtain ⟨K1, h1⟩ := Ev.get (a2); obtain ⟨K3, h3⟩ := Ev.get (IsPuzzle_ev l); obtain ⟨K5, h5⟩ := Ev.get (solutions_ev (good_ok hg))
    refine Ev.mk (max K1 (max K3 K5)) (fun k hk => ?_)
    unfold impl_HarderPuzzle.f; rw [h3 k (by omega), hg, Option.bind_some, if_pos rfl, h5 k (by omega), Option.bind_some, show (((sols l).length : Int) != 1) = false by simp; omega]; exact h1 k (by omega)
  · have b2 : Ev (fun k => spec_HarderPuzzle.j0 k false l) (h, true) := Ev.step b (fun k => by simp only [spec_HarderPuzzle.j0]; rw [if_neg (by simp), Option.bind_some, if_pos (by rw [List.length_nil]; omega)]; rfl)
    obtain ⟨K1, h1⟩ := Ev.get (b2); obtain ⟨K3, h3⟩ := Ev.get (pzGood_ev l); obtain ⟨K5, h5⟩ := Ev.get (pzSolved_ev (good_ok hg) hs)
    refine Ev.mk (max K1 (max K3 K5)) (fun k hk => ?_)
    unfold spec_HarderPuzzle.f; rw [h3 k (by omega), hg, Option.bind_some, if_pos rfl, h5 k (by omega), Option.bind_some, show (!decide ((sols l).length = 1)) = false by simpa using hq]; exact h1 k (by omega)
theorem IsSolved_ev (l : List S28) : Ev (fun k => impl_IsSolved.f k l) (if good l then (decide ((sols l).length = 1), true) else (false, false)) := by
  obtain ⟨K3, h3⟩ := Ev.get (IsPuzzle_ev l)
  cases hg : good l
  · refine Ev.mk K3 (fun k hk => ?_); unfold impl_IsSolved.f; rw [h3 k (by omega), hg]; rfl
  · obtain ⟨K5, h5⟩ := Ev.get (solutions_ev (good_ok hg))
    refine Ev.mk (max K3 K5) (fun k hk => ?_); unfold impl_IsSolved.f; rw [h3 k (by omega), hg, Option.bind_some, if_pos rfl, h5 k (by omega), Option.bind_some]
    have : (((sols l).length : Int) == 1) = decide ((sols l).length = 1) := by by_cases h : (sols l).length = 1 <;> simp [h] <;> omega
    rw [this]; rfl
theorem Solutions_ev {l : List S28} (hg : good l = true) : Ev (fun k => impl_Solutions.f k l) (sols l, true) := by
  obtain ⟨K3, h3⟩ := Ev.get (IsPuzzle_ev l); obtain ⟨K5, h5⟩ := Ev.get (solutions_ev (good_ok hg))
  refine Ev.mk (max K3 K5) (fun k hk => ?_); unfold impl_Solutions.f; rw [h3 k (by omega), hg, Option.bind_some, if_pos rfl, h5 k (by omega)]; rfl
theorem Needless_ev {h : List S28} (hg : good h = true) (hq : (sols h).length = 1) (hn : ∀ j, j < h.length → (sols (h.eraseIdx j)).length ≠ 1) : Ev (fun k => impl_NeedlessClues.f k h) ([], true) := by
  obtain ⟨K3, h3⟩ := Ev.get (IsPuzzle_ev h); obtain ⟨K5, h5⟩ := Ev.get (solutions_ev (good_ok hg)); obtain ⟨K6, h6⟩ := Ev.get (needless_ev hg hn h.length 0 (by omega))
  refine Ev.mk (max K3 (max K5 K6)) (fun k hk => ?_); unfold impl_NeedlessClues.f; rw [h3 k (by omega), hg, Option.bind_some, if_pos rfl, h5 k (by omega), Option.bind_some, hq]; exact h6 k (by omega)
end Go.Proofs.Ytlpjooijkeadbaa.PureA
