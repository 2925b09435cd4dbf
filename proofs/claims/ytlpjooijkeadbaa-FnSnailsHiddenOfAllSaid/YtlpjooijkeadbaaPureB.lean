/- The puzzle's answers as plain values: all snails that fit, puzzles made harder, clues added and dropped. -/
import Derived.Test.YtlpjooijkeadbaaPureA
namespace Go.Proofs.Ytlpjooijkeadbaa.PureA
open Go Go.RowKit Go.Proofs.Ytlpjooijkeadbaa.PH Go.Proofs.YtlpjooijkeadbaaW.PrintWords Go.Proofs.YtlpjooijkeadbaaW.PrintLast Go.Proofs.YtlpjooijkeadbaaW.PrintMore
set_option linter.unusedVariables false
set_option linter.unusedSimpArgs false
/-! ### Rows of snails -/
def row (p : Int → Int → Bool) (u : Int) : Nat → Int → List S23
  | 0, _ => []
  | n + 1, d => (if p u d then [(⟨u, d⟩ : S23)] else []) ++ row p u n (d + 1)
def rows (p : Int → Int → Bool) : Nat → Int → List S23
  | 0, _ => []
  | n + 1, u => row p u 13 0 ++ rows p n (u + 1)
def fits (l : List S28) (u d : Int) : Bool := l.all fun c => fit c u d
def sols (l : List S28) : List S23 := rows (fits l) 12 1
theorem row_sub {p q : Int → Int → Bool} (h : ∀ u d, p u d = true → q u d = true) (u : Int) : ∀ n d, (row p u n d).Sublist (row q u n d)
  | 0, _ => List.Sublist.refl _
  | n + 1, d => by
    unfold row
    refine List.Sublist.append ?_ (row_sub h u n (d + 1))
    cases hp : p u d
    · simp
    · simp [h u d hp]
theorem rows_sub {p q : Int → Int → Bool} (h : ∀ u d, p u d = true → q u d = true) : ∀ n u, (rows p n u).Sublist (rows q n u)
  | 0, _ => List.Sublist.refl _
  | n + 1, u => by unfold rows; exact List.Sublist.append (row_sub h u 13 0) (rows_sub h n (u + 1))
theorem row_len (p : Int → Int → Bool) (u : Int) : ∀ n d, (row p u n d).length ≤ n
  | 0, _ => Nat.le_refl _
  | n + 1, d => by
    unfold row
    have := row_len p u n (d + 1)
    rw [List.length_append]; split <;> simp <;> omega
theorem rows_len (p : Int → Int → Bool) : ∀ n u, (rows p n u).length ≤ 13 * n
  | 0, _ => Nat.le_refl _
  | n + 1, u => by
    unfold rows
    have := rows_len p n (u + 1); have := row_len p u 13 0
    rw [List.length_append]; omega
theorem sols_sub {a b : List S28} (h : ∀ c ∈ b, c ∈ a) : (sols a).Sublist (sols b) := by
  refine rows_sub (fun u d hp => ?_) _ _
  simp only [fits, List.all_eq_true] at hp ⊢
  exact fun c hc => hp c (h c hc)
def okl (l : List S28) : Prop := ∀ c ∈ l, okc c = true
theorem fit_of {c : S28} {u d : Int} (hc : okc c = true) (h : 1 ≤ u ∧ u ≤ 12 ∧ 0 ≤ d ∧ d ≤ 12) : impl_doesFit.f c.f0 c.f1 c.f2 u d = some (fit c u d) := doesFit_eq (hid_mk h) hc
theorem pfit_of {c : S28} {u d : Int} (hc : okc c = true) (h : 1 ≤ u ∧ u ≤ 12 ∧ 0 ≤ d ∧ d ≤ 12) : spec_pzFits.f c.f0 c.f1 c.f2 u d = some (fit c u d) := pzFits_eq (hid_mk h) hc
theorem ix_eq {u d : Int} (h : 1 ≤ u ∧ u ≤ 12 ∧ 0 ≤ d ∧ d ≤ 12) : ∀ (l : List S28) (i : Int), okl l → 0 ≤ i → ∃ r, slices_ContainsFunc_at_impl_solutions_1.ix l i u d = some r ∧ decide (0 ≤ r) = !fits l u d
  | [], i, _, _ => ⟨-1, rfl, rfl⟩
  | c :: cs, i, hl, hi => by
    have hc := fit_of (hl c (by simp)) h
    simp only [slices_ContainsFunc_at_impl_solutions_1.ix, hc, Option.bind_some, fits, List.all_cons]
    cases fit c u d
    · exact ⟨i, by simp, by simpa using hi⟩
    · obtain ⟨r, h1, h2⟩ := ix_eq h cs (i + 1) (fun x hx => hl x (by simp [hx])) (by omega)
      exact ⟨r, by simpa using h1, by simpa [fits] using h2⟩
theorem contains_eq {u d : Int} (h : 1 ≤ u ∧ u ≤ 12 ∧ 0 ≤ d ∧ d ≤ 12) {l : List S28} (hl : okl l) : slices_ContainsFunc_at_impl_solutions_1.f l u d = some (!fits l u d) := by
  obtain ⟨r, h1, h2⟩ := ix_eq h l 0 hl (by omega)
  unfold slices_ContainsFunc_at_impl_solutions_1.f; rw [h1, ← h2]; rfl
theorem implRow {l : List S28} (hl : okl l) {u : Int} (hu : 1 ≤ u ∧ u ≤ 12) {v : List S23} : ∀ (n : Nat) (d : Int) (acc : List S23), d + n = 13 → 0 ≤ d → acc.length ≤ 13 * 13 - n →
    Ev (fun k => impl_solutions.l0 k l (acc ++ row (fits l) u n d) (u + 1)) v → Ev (fun k => impl_solutions.l1 k l acc u d) v
  | 0, d, acc, h, h0, ha, hv => by
    refine Ev.step hv (fun k => ?_)
    simp only [impl_solutions.l1]; rw [if_neg (by omega), w64 (by omega) (by omega)]; simp [row]
  | n + 1, d, acc, h, h0, ha, hv => by
    have hc := contains_eq (u := u) (d := d) ⟨hu.1, hu.2, h0, by omega⟩ hl
    cases hp : fits l u d
    · refine Ev.step (implRow hl hu n (d + 1) acc (by omega) (by omega) (by omega) (by simpa [row, hp] using hv)) (fun k => ?_)
      simp only [impl_solutions.l1]; rw [if_pos (by omega), hc, hp]
      simp only [Option.bind_some, Bool.not_false, if_true]; rw [w64 (by omega) (by omega)]
    · refine Ev.step (implRow hl hu n (d + 1) (acc ++ [⟨u, d⟩]) (by omega) (by omega) (by simp; omega) (by simpa [row, hp] using hv)) (fun k => ?_)
      simp only [impl_solutions.l1]; rw [if_pos (by omega), hc, hp]
      simp only [Option.bind_some, Bool.not_true, Bool.false_eq_true, if_false]
      rw [if_pos (by omega), w64 (by omega) (by omega)]
theorem implRows {l : List S28} (hl : okl l) : ∀ (n : Nat) (u : Int) (acc : List S23), u + n = 13 → 1 ≤ u → acc.length ≤ 13 * (12 - n) → Ev (fun k => impl_solutions.l0 k l acc u) (acc ++ rows (fits l) n u)
  | 0, u, acc, h, h1, ha => by
    refine Ev.step (g := fun _ => some acc) (Ev.all fun _ => by simp [rows]) (fun k => ?_)
    simp only [impl_solutions.l0]; rw [if_neg (by omega)]
  | n + 1, u, acc, h, h1, ha => by
    have hr := row_len (fits l) u 13 0
    have := implRows hl n (u + 1) (acc ++ row (fits l) u 13 0) (by omega) (by omega) (by rw [List.length_append]; omega)
    rw [List.append_assoc] at this
    refine Ev.step (implRow hl ⟨h1, by omega⟩ 13 0 acc (by omega) (by omega) (by omega) this) (fun k => ?_)
    simp only [impl_solutions.l0]; rw [if_pos (by omega)]
theorem solutions_ev {l : List S28} (hl : okl l) : Ev (fun k => impl_solutions.f k l) (sols l) := by
  unfold impl_solutions.f; simpa [sols] using implRows hl 12 1 [] (by omega) (by omega) (by simp)
/-! ### The reference's -/
theorem specFlag {l : List S28} (hl : okl l) (hs : l.length ≤ 6) {u d : Int} (h : 1 ≤ u ∧ u ≤ 12 ∧ 0 ≤ d ∧ d ≤ 12) {acc v : List S23} : ∀ (n i : Nat) (b : Bool), l.length = i + n →
    Ev (fun k => spec_pzAll.l2 k l acc u d (b && (l.drop i).all fun c => fit c u d) l (l.length : Int) (l.length : Int) u d) v → Ev (fun k => spec_pzAll.l2 k l acc u d b l (l.length : Int) (i : Int) u d) v
  | 0, i, b, hn, hv => by
    have : i = l.length := by omega
    subst this; simpa using hv
  | n + 1, i, b, hn, hv => by
    have hi : i < l.length := by omega
    have hd := rd_drop hi
    have hm : rd_T28 l (i : Int) ∈ l := by simp [rd_T28, hi]
    have hc := pfit_of (hl _ hm) h
    cases b
    · refine Ev.step (specFlag hl hs h n (i + 1) false (by omega) (by simpa using hv)) (fun k => ?_)
      simp only [spec_pzAll.l2]; rw [if_pos (by omega), if_pos (by omega), if_pos (by omega)]
      simp only [Bool.false_eq_true, if_false]; rw [w64 (by omega) (by omega)]; rfl
    · refine Ev.step (specFlag hl hs h n (i + 1) (fit (rd_T28 l (i : Int)) u d) (by omega) (by rw [hd] at hv; simpa using hv)) (fun k => ?_)
      simp only [spec_pzAll.l2]; rw [if_pos (by omega), if_pos (by omega), if_pos (by omega)]
      simp only [if_true, hc, Option.bind_some]; rw [w64 (by omega) (by omega)]; rfl
theorem specRow {l : List S28} (hl : okl l) (hs : l.length ≤ 6) {u : Int} (hu : 1 ≤ u ∧ u ≤ 12) {v : List S23} : ∀ (n : Nat) (d : Int) (acc : List S23), d + n = 13 → 0 ≤ d → acc.length ≤ 13 * 13 - n →
    Ev (fun k => spec_pzAll.l0 k l (acc ++ row (fits l) u n d) (u + 1)) v → Ev (fun k => spec_pzAll.l1 k l acc u d) v
  | 0, d, acc, h, h0, ha, hv => by
    refine Ev.step hv (fun k => ?_)
    simp only [spec_pzAll.l1]; rw [if_neg (by omega), w64 (by omega) (by omega)]; simp [row]
  | n + 1, d, acc, h, h0, ha, hv => by
    have hb : 1 ≤ u ∧ u ≤ 12 ∧ 0 ≤ d ∧ d ≤ 12 := ⟨hu.1, hu.2, h0, by omega⟩
    refine Ev.step (g := fun k => spec_pzAll.l2 k l acc u d true l (l.length : Int) 0 u d) ?_ (fun k => by simp only [spec_pzAll.l1]; rw [if_pos (by omega)])
    refine specFlag hl hs hb l.length 0 true (by omega) ?_
    simp only [Bool.true_and, List.drop_zero]
    cases hp : fits l u d
    · refine Ev.step (specRow hl hs hu n (d + 1) acc (by omega) (by omega) (by omega) (by simpa [row, hp] using hv)) (fun k => ?_)
      simp only [spec_pzAll.l2]; rw [if_neg (by omega)]
      have : (l.all fun c => fit c u d) = false := hp
      rw [this]; simp only [Bool.false_eq_true, if_false]; rw [w64 (by omega) (by omega)]
    · refine Ev.step (specRow hl hs hu n (d + 1) (acc ++ [⟨u, d⟩]) (by omega) (by omega) (by simp; omega) (by simpa [row, hp] using hv)) (fun k => ?_)
      simp only [spec_pzAll.l2]; rw [if_neg (by omega)]
      have : (l.all fun c => fit c u d) = true := hp
      rw [this]; simp only [if_true]; rw [if_pos (by omega), w64 (by omega) (by omega)]
theorem specRows {l : List S28} (hl : okl l) (hs : l.length ≤ 6) : ∀ (n : Nat) (u : Int) (acc : List S23), u + n = 13 → 1 ≤ u → acc.length ≤ 13 * (12 - n) → Ev (fun k => spec_pzAll.l0 k l acc u) (acc ++ rows (fits l) n u)
  | 0, u, acc, h, h1, ha => by
    refine Ev.step (g := fun _ => some acc) (Ev.all fun _ => by simp [rows]) (fun k => ?_)
    simp only [spec_pzAll.l0]; rw [if_neg (by omega)]
  | n + 1, u, acc, h, h1, ha => by
    have hr := row_len (fits l) u 13 0
    have := specRows hl hs n (u + 1) (acc ++ row (fits l) u 13 0) (by omega) (by omega) (by rw [List.length_append]; omega)
    rw [List.append_assoc] at this
    refine Ev.step (specRow hl hs ⟨h1, by omega⟩ 13 0 acc (by omega) (by omega) (by omega) this) (fun k => ?_)
    simp only [spec_pzAll.l0]; rw [if_pos (by omega)]
theorem pzAll_ev {l : List S28} (hl : okl l) (hs : l.length ≤ 6) : Ev (fun k => spec_pzAll.f k l) (sols l) := by
  unfold spec_pzAll.f; simpa [sols] using specRows hl hs 12 1 [] (by omega) (by omega) (by simp)
theorem pzSolved_ev {l : List S28} (hl : okl l) (hs : l.length ≤ 6) : Ev (fun k => spec_pzSolved.f k l) (decide ((sols l).length = 1)) := by
  unfold spec_pzSolved.f
  refine Ev.bind (pzAll_ev hl hs) (Ev.all fun _ => ?_)
  congr 1
  by_cases h : (sols l).length = 1 <;> simp [h] <;> omega
/-! ### One clue less -/
theorem good_len {l : List S28} (h : good l = true) : l.length ≤ 6 := by simp only [good, Bool.and_eq_true, decide_eq_true_eq] at h; exact h.1
theorem good_ok {l : List S28} (h : good l = true) : okl l := by simp only [good, Bool.and_eq_true, List.all_eq_true] at h; exact h.2
theorem good_mk {l : List S28} (h : l.length ≤ 6) (h2 : okl l) : good l = true := by simp only [good, Bool.and_eq_true, decide_eq_true_eq, List.all_eq_true]; exact ⟨h, h2⟩
theorem erase_mem {l : List S28} {i : Nat} {c : S28} (h : c ∈ l.eraseIdx i) : c ∈ l := (List.eraseIdx_sublist l i).subset h
theorem good_erase {l : List S28} (h : good l = true) (i : Nat) : good (l.eraseIdx i) = true :=
  good_mk (Nat.le_trans (List.eraseIdx_sublist l i).length_le (good_len h)) (fun c hc => good_ok h c (erase_mem hc))
theorem clone_eq {l : List S28} (h : l.length < 5864062014805) : impl_Clue_47.f l = some l := by unfold impl_Clue_47.f; simp [h]
theorem without_eq {l : List S28} (hs : l.length ≤ 6) {i : Nat} (hi : i < l.length) : impl_withoutClue.f l (i : Int) = some (l.eraseIdx i) := by
  unfold impl_withoutClue.f; rw [if_pos ⟨by omega, by omega⟩, clone_eq (by omega)]; simp
theorem pzWithout_eq {l : List S28} (hs : l.length ≤ 6) {i : Nat} (hi : i < l.length) : spec_pzWithout.f l (i : Int) = some (l.eraseIdx i) := by
  unfold spec_pzWithout.f
  have e : wrap64 ((i : Int) + 1) = ((i + 1 : Nat) : Int) := w64 (by omega) (by omega)
  have h1 : (([] : List S28).length + (l.take (i : Int).toNat).length) < 5864062014805 := by rw [List.length_take, List.length_nil]; omega
  have h2 : (([] : List S28) ++ l.take (i : Int).toNat).length + (l.drop ((i + 1 : Nat) : Int).toNat).length < 5864062014805 := by rw [List.nil_append, List.length_take, List.length_drop]; omega
  rw [Option.bind_some, if_pos (by omega), if_pos (by omega), Option.bind_some, if_pos h1, Option.bind_some, e, if_pos (by omega), if_pos (by omega), Option.bind_some, if_pos h2, List.eraseIdx_eq_take_drop_succ]
  rfl
theorem erase_erase {l : List S28} : ∀ {i j : Nat}, j < i → (l.eraseIdx i).eraseIdx j = (l.eraseIdx j).eraseIdx (i - 1) := by
  induction l with
  | nil => intros; simp
  | cons a l ih =>
    intro i j h
    obtain ⟨m, rfl⟩ : ∃ m, i = m + 1 := ⟨i - 1, by omega⟩
    cases j with
    | zero => simp
    | succ j =>
      obtain ⟨q, rfl⟩ : ∃ q, m = q + 1 := ⟨m - 1, by omega⟩
      simp only [List.eraseIdx_cons_succ, Nat.add_sub_cancel]
      rw [ih (by omega)]; simp
theorem harder_ev : ∀ (n : Nat) (l : List S28) (i : Nat), good l = true → l.length = i + n → (sols l).length = 1 → (∀ j, j < i → (sols (l.eraseIdx j)).length ≠ 1) →
    ∃ h, Ev (fun k => impl_HarderPuzzle.l0 k l (i : Int)) (h, true) ∧ Ev (fun k => spec_HarderPuzzle.l0 k l (i : Int)) (h, true) ∧ h.Sublist l ∧ (sols h).length = 1 ∧ ∀ j, j < h.length → (sols (h.eraseIdx j)).length ≠ 1
  | 0, l, i, hg, hn, h1, hj => by
    refine ⟨l, Ev.step (g := fun _ => some (l, true)) (Ev.all fun _ => rfl) (fun k => ?_), Ev.step (g := fun _ => some (l, true)) (Ev.all fun _ => rfl) (fun k => ?_), List.Sublist.refl _, h1, fun j hjl => hj j (by omega)⟩
    · simp only [impl_HarderPuzzle.l0]; rw [if_neg (by omega)]
    · simp only [spec_HarderPuzzle.l0]; rw [if_neg (by omega)]
  | n + 1, l, i, hg, hn, h1, hj => by
    have hs := good_len hg
    have hi : i < l.length := by omega
    have hgt := good_erase hg i
    have e1 := without_eq hs hi
    have e2 := pzWithout_eq hs hi
    have v1 := solutions_ev (good_ok hgt)
    have v2 := pzSolved_ev (good_ok hgt) (good_len hgt)
    by_cases hq : (sols (l.eraseIdx i)).length = 1
    · have hlen : (l.eraseIdx i).length = i + n := by rw [List.length_eraseIdx, if_pos hi]; omega
      obtain ⟨h, a, b, c, d, e⟩ := harder_ev n (l.eraseIdx i) i hgt hlen hq (fun j hji => by
        intro hbad
        have s1 : (sols (l.eraseIdx j)).Sublist (sols ((l.eraseIdx i).eraseIdx j)) := sols_sub (fun c hc => by rw [erase_erase hji] at hc; exact erase_mem hc)
        have s2 : (sols l).Sublist (sols (l.eraseIdx j)) := sols_sub (fun c hc => erase_mem hc)
        have := s1.length_le; have := s2.length_le; have := hj j hji
        omega)
      refine ⟨h, Ev.stepB v1 a (fun k hk => ?_), Ev.stepB v2 b (fun k hk => ?_), c.trans (List.eraseIdx_sublist l i), d, e⟩
      · simp only [impl_HarderPuzzle.l0]; rw [if_pos (by omega), e1]; simp only [Option.bind_some]; rw [hk]; simp only [Option.bind_some]; rw [if_pos (by omega)]
      · simp only [spec_HarderPuzzle.l0]; rw [if_pos (by omega), e2]; simp only [Option.bind_some]; rw [hk]; simp only [Option.bind_some]; rw [if_pos (by simpa using hq)]
    · obtain ⟨h, a, b, c, d, e⟩ := harder_ev n l (i + 1) hg (by omega) h1 (fun j hji => by
        by_cases hj2 : j = i
        · subst hj2; exact hq
        · exact hj j (by omega))
      have ew : wrap64 ((i : Int) + 1) = ((i + 1 : Nat) : Int) := w64 (by omega) (by omega)
      refine ⟨h, Ev.stepB v1 a (fun k hk => ?_), Ev.stepB v2 b (fun k hk => ?_), c, d, e⟩
      · simp only [impl_HarderPuzzle.l0]; rw [if_pos (by omega), e1]; simp only [Option.bind_some]; rw [hk]; simp only [Option.bind_some]; rw [if_neg (by omega), ew]
      · simp only [spec_HarderPuzzle.l0]; rw [if_pos (by omega), e2]; simp only [Option.bind_some]; rw [hk]; simp only [Option.bind_some]; rw [if_neg (by simpa using hq), ew]
theorem needless_ev {h : List S28} (hg : good h = true) (hn : ∀ j, j < h.length → (sols (h.eraseIdx j)).length ≠ 1) : ∀ (n i : Nat), h.length = i + n → Ev (fun k => impl_NeedlessClues.l0 k 1 [] (h.length : Int) (i : Int) h) ([], true)
  | 0, i, hl => by
    refine Ev.step (g := fun _ => some (([] : List Int), true)) (Ev.all fun _ => rfl) (fun k => ?_)
    simp only [impl_NeedlessClues.l0]; rw [if_neg (by omega)]
  | n + 1, i, hl => by
    have hs := good_len hg
    have hi : i < h.length := by omega
    have ew : wrap64 ((i : Int) + 1) = ((i + 1 : Nat) : Int) := w64 (by omega) (by omega)
    refine Ev.stepB (solutions_ev (good_ok (good_erase hg i))) (needless_ev hg hn n (i + 1) (by omega)) (fun k hk => ?_)
    simp only [impl_NeedlessClues.l0]; rw [if_pos (by omega), without_eq hs hi]; simp only [Option.bind_some]; rw [hk]; simp only [Option.bind_some]
    rw [if_neg (by have := hn i hi; omega), ew]
end Go.Proofs.Ytlpjooijkeadbaa.PureA
