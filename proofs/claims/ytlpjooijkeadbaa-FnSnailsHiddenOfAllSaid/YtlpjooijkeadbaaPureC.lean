/- The law 'FnSnailsHiddenOfAll' as a plain law: whatever is given, what its walk computes is true. -/
import Derived.Test.YtlpjooijkeadbaaPureB
namespace Go.Proofs.Ytlpjooijkeadbaa.PureA
open Go Go.RowKit Go.Proofs.Ytlpjooijkeadbaa.PH Go.Proofs.YtlpjooijkeadbaaW.PrintWords Go.Proofs.YtlpjooijkeadbaaW.PrintLast Go.Proofs.YtlpjooijkeadbaaW.PrintMore
set_option linter.unusedVariables false
set_option linter.unusedSimpArgs false
/-! ### Puzzles that are made -/
def nx (x : Int) : Int := Int.tmod (x * 227 + 2027) 10007
theorem nx_range {x : Int} (h : 0 ≤ x) : 0 ≤ nx x ∧ nx x ≤ 10006 := by
  unfold nx
  rw [Int.tmod_eq_emod_of_nonneg (by omega)]; omega
theorem nxw {x : Int} (h : 0 ≤ x ∧ x ≤ 10006) : Int.tmod (wrap64 ((wrap64 (x * 227)) + 2027)) 10007 = nx x := by
  rw [w64 (x := x * 227) (by omega) (by omega), w64 (by omega) (by omega)]; rfl
theorem pzNext_eq {x : Int} (h : 0 ≤ x ∧ x ≤ 10006) : spec_pzNext.f x = some (nx x) := by
  unfold spec_pzNext.f; rw [Int.mul_comm 227 x, nxw h]
theorem tm {x n : Int} (h : 0 ≤ x) (hn : 0 < n) : 0 ≤ Int.tmod x n ∧ Int.tmod x n < n := by
  rw [Int.tmod_eq_emod_of_nonneg h]; exact ⟨Int.emod_nonneg _ (by omega), Int.emod_lt_of_pos _ hn⟩
def arg (t p : Int) : Int := if t = 0 ∨ t = 1 then Int.tmod p 100 + 1 else if t = 3 then Int.tmod p 8 + 2 else 0
def mk (t p u d : Int) : S28 := ⟨t, arg t p, tell t (arg t p) u d⟩
theorem arg_b {t p : Int} (ht : 0 ≤ t ∧ t < 5) (hp : 0 ≤ p) : 0 ≤ arg t p ∧ arg t p ≤ 100 ∧ (t = 3 → arg t p ≠ 0) := by
  have a := tm hp (n := 100) (by omega); have b := tm hp (n := 8) (by omega)
  unfold arg; split
  · omega
  · split <;> omega
theorem tell_ok {t a u d : Int} (h : 1 ≤ u ∧ u ≤ 12 ∧ 0 ≤ d ∧ d ≤ 12) (ht : 0 ≤ t ∧ t < 5) (h01 : t = 0 ∨ t = 1 → 1 ≤ a ∧ a ≤ 100) (h3 : t = 3 → 2 ≤ a ∧ a ≤ 9) (h0 : t = 2 ∨ t = 4 → a = 0) : clue t a (tell t a u d) = true := by
  unfold clue tell
  by_cases c0 : t = 0
  · subst c0; have := h01 (.inl rfl)
    simp only [if_true, inb, Bool.and_eq_true, decide_eq_true_eq]
    refine ⟨⟨by omega, by omega⟩, ?_⟩
    split
    · omega
    split
    · omega
    have b := tdivB (n := a - u + (u - d) - 1) (q := u - d) (by omega) (by omega)
    omega
  by_cases c1 : t = 1
  · subst c1; have := h01 (.inr rfl)
    simp only [if_true, inb, Bool.and_eq_true, decide_eq_true_eq, if_neg c0]
    refine ⟨⟨by omega, by omega⟩, ?_⟩
    have hm : 0 ≤ mx 0 (u - d) ∧ mx 0 (u - d) ≤ 12 := by unfold mx; split <;> omega
    have b := Int.mul_nonneg hm.1 (show 0 ≤ a - 1 by omega)
    unfold mn; split <;> omega
  by_cases c2 : t = 2
  · have := h0 (.inl c2); simp [c2, inb, this]; omega
  by_cases c3 : t = 3
  · have := h3 c3
    simp only [c3, inb]; simp
    refine ⟨by omega, ?_⟩
    split <;> omega
  have c4 : t = 4 := by omega
  have := h0 (.inr c4); simp [c4, inb, this]; omega
theorem mk_ok {t p u d : Int} (h : 1 ≤ u ∧ u ≤ 12 ∧ 0 ≤ d ∧ d ≤ 12) (ht : 0 ≤ t ∧ t < 5) (hp : 0 ≤ p) : okc (mk t p u d) = true := by
  have a := tm hp (n := 100) (by omega); have b := tm hp (n := 8) (by omega)
  show clue t (arg t p) (tell t (arg t p) u d) = true
  refine tell_ok h ht (fun h1 => ?_) (fun h1 => ?_) (fun h1 => ?_)
  · unfold arg; rw [if_pos h1]; omega
  · unfold arg; rw [if_neg (by omega), if_pos h1]; omega
  · unfold arg; rw [if_neg (by omega), if_neg (by omega)]
theorem mk_fit (t p u d : Int) : fit (mk t p u d) u d = true := by simp [fit, mk]
def gen (u d : Int) : Nat → Int → List S28
  | 0, _ => []
  | n + 1, x => mk (Int.tmod (nx x) 5) (nx (nx x)) u d :: gen u d n (nx (nx x))
theorem gen_len (u d : Int) : ∀ n x, (gen u d n x).length = n
  | 0, _ => rfl
  | n + 1, x => by simp [gen, gen_len u d n]
theorem gen_all {u d : Int} (h : 1 ≤ u ∧ u ≤ 12 ∧ 0 ≤ d ∧ d ≤ 12) : ∀ n x, 0 ≤ x → ∀ c ∈ gen u d n x, okc c = true ∧ fit c u d = true
  | 0, _, _ => fun c hc => by simp [gen] at hc
  | n + 1, x, hx => fun c hc => by
    have h1 := nx_range hx; have h2 := nx_range h1.1
    simp only [gen, List.mem_cons] at hc
    rcases hc with rfl | hc
    · exact ⟨mk_ok h (tm h1.1 (by omega)) h2.1, mk_fit _ _ _ _⟩
    · exact gen_all h n _ h2.1 c hc
theorem j2_eq {t p u d N i : Int} {acc : List S28} {k : Nat} (h : 1 ≤ u ∧ u ≤ 12 ∧ 0 ≤ d ∧ d ≤ 12) (ht : 0 ≤ t ∧ t < 5) (hp : 0 ≤ p) (ha : acc.length ≤ 6) :
    impl_MakePuzzle.j2 (k + 1) p N i t (decide (t = 0 ∨ t = 1)) u d acc t 0 0 = impl_MakePuzzle.l0 k p N (wrap64 (i + 1)) u d (acc ++ [mk t p u d]) := by
  have a := tm hp (n := 100) (by omega); have b := tm hp (n := 8) (by omega)
  have ab := arg_b ht hp
  have hb : arg t p = if t = 0 ∨ t = 1 then Int.tmod p 100 + 1 else if t = 3 then Int.tmod p 8 + 2 else 0 := rfl
  simp only [impl_MakePuzzle.j2]
  by_cases c : t = 0 ∨ t = 1
  · rw [if_pos c] at hb
    rw [if_pos (by simpa using c), w64 (by omega) (by omega), ← hb, toldBy_eq h ab.1 ab.2.1 ab.2.2, Option.bind_some, if_pos (by omega)]; rfl
  · rw [if_neg c] at hb
    rw [if_neg (by simpa using c)]
    by_cases c3 : t = 3
    · rw [if_pos c3] at hb
      rw [if_pos c3, w64 (by omega) (by omega), ← hb, toldBy_eq h ab.1 ab.2.1 ab.2.2, Option.bind_some, if_pos (by omega)]; rfl
    · rw [if_neg c3] at hb
      rw [if_neg c3, toldBy_eq h (by omega) (by omega) (by omega), Option.bind_some, if_pos (by omega)]
      unfold mk; rw [hb]
theorem implGen {u d : Int} (h : 1 ≤ u ∧ u ≤ 12 ∧ 0 ≤ d ∧ d ≤ 12) {N : Nat} (hN : N ≤ 6) : ∀ (n i : Nat) (x : Int) (acc : List S28), i + n = N → 0 ≤ x ∧ x ≤ 10006 → acc.length = i →
    Ev (fun k => impl_MakePuzzle.l0 k x (N : Int) (i : Int) u d acc) (acc ++ gen u d n x, true)
  | 0, i, x, acc, hi, hx, ha => by
    refine Ev.step (g := fun _ => some (acc, true)) (Ev.all fun _ => by simp [gen]) (fun k => ?_)
    simp only [impl_MakePuzzle.l0]; rw [if_neg (by omega)]
  | n + 1, i, x, acc, hi, hx, ha => by
    have h1 := nx_range hx.1; have h2 := nx_range h1.1
    have ht := tm h1.1 (n := 5) (by omega)
    have := implGen h hN n (i + 1) (nx (nx x)) (acc ++ [mk (Int.tmod (nx x) 5) (nx (nx x)) u d]) (by omega) h2 (by simp [ha])
    rw [List.append_assoc] at this
    refine Ev.step (g := fun k => impl_MakePuzzle.j2 k (nx (nx x)) (N : Int) (i : Int) (Int.tmod (nx x) 5) (decide (Int.tmod (nx x) 5 = 0 ∨ Int.tmod (nx x) 5 = 1)) u d acc (Int.tmod (nx x) 5) 0 0) (Ev.step this (fun k => ?_)) (fun k => ?_)
    · rw [j2_eq h ht h2.1 (by omega), w64 (by omega) (by omega)]; rfl
    · simp only [impl_MakePuzzle.l0]; rw [if_pos (by omega), nxw hx, nxw h1]
      by_cases c : Int.tmod (nx x) 5 = 0
      · rw [if_pos c, c]; rfl
      · rw [if_neg c]; congr 1
        by_cases c1 : Int.tmod (nx x) 5 = 1
        · rw [c1]; rfl
        · simp [c, c1]
theorem pzOf_ev {t p u d : Int} (h : 1 ≤ u ∧ u ≤ 12 ∧ 0 ≤ d ∧ d ≤ 12) (ht : 0 ≤ t ∧ t < 5) (hp : 0 ≤ p) : Ev (fun k => spec_pzOf.f k t p u d) ((mk t p u d).f0, (mk t p u d).f1, (mk t p u d).f2) := by
  have a := tm hp (n := 100) (by omega); have b := tm hp (n := 8) (by omega)
  have ab := arg_b ht hp
  have hb : arg t p = if t = 0 ∨ t = 1 then Int.tmod p 100 + 1 else if t = 3 then Int.tmod p 8 + 2 else 0 := rfl
  have hj : Ev (fun k => spec_pzOf.j0 k t p 0 t (decide (t = 0 ∨ t = 1)) u d) ((mk t p u d).f0, (mk t p u d).f1, (mk t p u d).f2) := by
    refine Ev.step (g := fun _ => some ((mk t p u d).f0, (mk t p u d).f1, (mk t p u d).f2)) (Ev.all fun _ => rfl) (fun k => ?_)
    simp only [spec_pzOf.j0]
    by_cases c : t = 0 ∨ t = 1
    · rw [if_pos c] at hb
      rw [if_pos (by simpa using c), w64 (by omega) (by omega), ← hb, pzValue_eq h ab.1 ab.2.1 ab.2.2]; rfl
    · rw [if_neg c] at hb
      rw [if_neg (by simpa using c)]
      by_cases c3 : t = 3
      · rw [if_pos c3] at hb
        rw [if_pos c3, w64 (by omega) (by omega), ← hb, pzValue_eq h ab.1 ab.2.1 ab.2.2]; rfl
      · rw [if_neg c3] at hb
        rw [if_neg c3, pzValue_eq h (by omega) (by omega) (by omega)]
        unfold mk; rw [hb]; rfl
  refine Ev.cong hj (fun k => ?_)
  unfold spec_pzOf.f
  by_cases c : t = 0
  · rw [if_pos c, c]; rfl
  · rw [if_neg c]; congr 1
    by_cases c1 : t = 1
    · rw [c1]; rfl
    · simp [c, c1]
theorem specGen {u d : Int} (h : 1 ≤ u ∧ u ≤ 12 ∧ 0 ≤ d ∧ d ≤ 12) : ∀ (n : Nat) (x : Int) (acc : List S28), acc.length + n ≤ 6 → 0 ≤ x ∧ x ≤ 10006 →
    Ev (fun k => spec_MakePuzzle.l0 k (n : Int) x u d acc) (acc ++ gen u d n x, true)
  | 0, x, acc, hi, hx => by
    refine Ev.step (g := fun _ => some (acc, true)) (Ev.all fun _ => by simp [gen]) (fun k => ?_)
    simp only [spec_MakePuzzle.l0]; rw [if_neg (by omega)]
  | n + 1, x, acc, hi, hx => by
    have h1 := nx_range hx.1; have h2 := nx_range h1.1
    have ht := tm h1.1 (n := 5) (by omega)
    have := specGen h n (nx (nx x)) (acc ++ [mk (Int.tmod (nx x) 5) (nx (nx x)) u d]) (by simp; omega) h2
    rw [List.append_assoc] at this
    refine Ev.stepB (pzOf_ev h ht h2.1) this (fun k hk => ?_)
    simp only [spec_MakePuzzle.l0]; rw [if_pos (by omega), pzNext_eq hx, Option.bind_some, pzNext_eq h1, Option.bind_some, hk, Option.bind_some, if_pos (by omega), w64 (by omega) (by omega)]
    congr 1; omega
def made (u d n s : Int) : List S28 × Bool := if hid u d && inb n 0 6 && inb s 0 9999 then (gen u d n.toNat s, true) else ([], false)
theorem inb_of {a l h : Int} (e : inb a l h = true) : l ≤ a ∧ a ≤ h := by simpa [inb] using e
theorem implMake_ev (u d n s : Int) : Ev (fun k => impl_MakePuzzle.f k u d n s) (made u d n s) := by
  have bad : Ev (fun k => impl_MakePuzzle.j0 k n s true u d) (([] : List S28), false) := Ev.step (g := fun _ => some ([], false)) (Ev.all fun _ => rfl) (fun k => by simp [impl_MakePuzzle.j0])
  unfold impl_MakePuzzle.f made
  simp only [isHidden_eq, within_eq, Option.bind_some]
  cases h1 : hid u d
  · simpa using bad
  cases h2 : inb n 0 6
  · simpa using bad
  cases h3 : inb s 0 9999
  · simpa using bad
  have b2 := inb_of h2; have b3 := inb_of h3
  simp only [if_true, Bool.and_self, Bool.not_true]
  have := implGen (hid_of h1) (N := n.toNat) (by omega) n.toNat 0 s [] (by omega) ⟨b3.1, by omega⟩ rfl
  refine Ev.step (by simpa using this) (fun k => ?_)
  simp only [impl_MakePuzzle.j0, Bool.false_eq_true, if_false]
  congr 1; omega
theorem specMake_ev (u d n s : Int) : Ev (fun k => spec_MakePuzzle.f k u d n s) (made u d n s) := by
  have bad : Ev (fun k => spec_MakePuzzle.j0 k n s true u d) (([] : List S28), false) := Ev.step (g := fun _ => some ([], false)) (Ev.all fun _ => rfl) (fun k => by simp [spec_MakePuzzle.j0])
  unfold spec_MakePuzzle.f made
  simp only [pzHidden_eq, l1In_eq, Option.bind_some]
  cases h1 : hid u d
  · simpa using bad
  cases h2 : inb n 0 6
  · simpa using bad
  cases h3 : inb s 0 9999
  · simpa using bad
  have b2 := inb_of h2; have b3 := inb_of h3
  simp only [if_true, Bool.and_self, Bool.not_true]
  have := specGen (hid_of h1) n.toNat s [] (by simp; omega) ⟨b3.1, by omega⟩
  refine Ev.step (by simpa using this) (fun k => ?_)
  simp only [spec_MakePuzzle.j0, Bool.false_eq_true, if_false]
  congr 1; omega
/-! ### What the law compares -/
theorem qClues_ev {l : List S28} (hl : l.length ≤ 6) : Ev (fun k => laws_qClues.f k l l) true := by
  unfold laws_qClues.f
  refine Ev.cong (g := fun k => laws_qClues.l0 k l l (l.length : Int) 0) ?_ (fun k => if_pos rfl)
  suffices hh : ∀ n i : Nat, l.length = i + n → Ev (fun k => laws_qClues.l0 k l l (l.length : Int) (i : Int)) true by exact hh l.length 0 (by omega)
  intro n
  induction n with
  | zero => intro i hi; exact Ev.step (g := fun _ => some true) (Ev.all fun _ => rfl) (fun k => by simp only [laws_qClues.l0]; rw [if_neg (by omega)])
  | succ n ih =>
    intro i hi
    refine Ev.step (ih (i + 1) (by omega)) (fun k => ?_)
    simp only [laws_qClues.l0]; rw [if_pos (by omega), if_pos (by omega), if_pos (by omega), if_pos (by omega), if_neg (by simp), w64 (by omega) (by omega)]; rfl
theorem qSnails_ev {l : List S23} (hl : l.length ≤ 200) : Ev (fun k => laws_qSnails.f k l l) true := by
  unfold laws_qSnails.f
  refine Ev.cong (g := fun k => laws_qSnails.l0 k l l (l.length : Int) 0) ?_ (fun k => if_pos rfl)
  suffices hh : ∀ n i : Nat, l.length = i + n → Ev (fun k => laws_qSnails.l0 k l l (l.length : Int) (i : Int)) true by exact hh l.length 0 (by omega)
  intro n
  induction n with
  | zero => intro i hi; exact Ev.step (g := fun _ => some true) (Ev.all fun _ => rfl) (fun k => by simp only [laws_qSnails.l0]; rw [if_neg (by omega)])
  | succ n ih =>
    intro i hi
    refine Ev.step (ih (i + 1) (by omega)) (fun k => ?_)
    simp only [laws_qSnails.l0]; rw [if_pos (by omega), if_pos (by omega), if_pos (by omega), if_pos (by omega), if_neg (by simp), w64 (by omega) (by omega)]; rfl
theorem good_app (l : List S28) (c : S28) : good (l ++ [c]) = (good l && okc c && decide (l.length ≠ 6)) := by
  simp only [good, List.length_append, List.length_cons, List.length_nil, List.all_append, List.all_cons, List.all_nil, Bool.and_true]
  by_cases h : l.length + 1 ≤ 6 <;> by_cases h2 : l.length ≤ 6 <;> by_cases h3 : l.length = 6 <;> cases okc c <;> cases l.all okc <;> simp [h, h2, h3] <;> omega
def added (l : List S28) (c : S28) : List S28 × Bool := if good (l ++ [c]) then (l ++ [c], true) else ([], false)
theorem implAdd_ev {l : List S28} (hl : l.length + 1 < 5864062014805) (a b c : Int) : Ev (fun k => impl_AddClue.f k l a b c) (added l ⟨a, b, c⟩) := by
  obtain ⟨K, hK⟩ := Ev.get (IsPuzzle_ev (l ++ [⟨a, b, c⟩]))
  refine Ev.mk K (fun k hk => ?_)
  unfold impl_AddClue.f added
  rw [clone_eq (by omega), Option.bind_some, Option.bind_some, if_pos (by simpa using hl), Option.bind_some, hK k hk, Option.bind_some]
  split <;> rfl
theorem specAdd_ev (l : List S28) (a b c : Int) : Ev (fun k => spec_AddClue.f k l a b c) (added l ⟨a, b, c⟩) := by
  obtain ⟨K, hK⟩ := Ev.get (pzGood_ev l)
  refine Ev.mk K (fun k hk => ?_)
  unfold spec_AddClue.f added
  rw [hK k hk, Option.bind_some, good_app]
  cases hg : good l
  · simp
  have hs := good_len hg
  rw [if_pos rfl, pzClue_eq, Option.bind_some]
  have e : okc ⟨a, b, c⟩ = clue a b c := rfl
  rw [e]
  cases hc : clue a b c
  · simp
  rw [if_pos rfl]
  by_cases h6 : l.length = 6
  · rw [if_pos (by omega)]; simp [h6]
  · rw [if_neg (by omega), Option.bind_some, if_pos (by simp; omega), Option.bind_some, Option.bind_some, if_pos (by simp; omega)]; simp [h6]
def dropped (l : List S28) (i : Int) : List S28 × Bool := if good l && inb i 0 ((l.length : Int) - 1) then (l.eraseIdx i.toNat, true) else ([], false)
theorem implDrop_ev (l : List S28) (i : Int) : Ev (fun k => impl_DropClue.f k l i) (dropped l i) := by
  obtain ⟨K, hK⟩ := Ev.get (IsPuzzle_ev l)
  refine Ev.mk K (fun k hk => ?_)
  unfold impl_DropClue.f dropped
  rw [hK k hk, Option.bind_some]
  cases hg : good l
  · simp
  have hs := good_len hg
  rw [if_pos rfl, w64 (by omega) (by omega), within_eq, Option.bind_some]
  cases hi : inb i 0 ((l.length : Int) - 1)
  · simp
  have b := inb_of hi
  have e : i = ((i.toNat : Nat) : Int) := by omega
  rw [if_pos rfl]
  rw [show impl_withoutClue.f l i = some (l.eraseIdx i.toNat) by rw [e]; exact without_eq hs (by omega)]
  rfl
theorem specDrop_ev (l : List S28) (i : Int) : Ev (fun k => spec_DropClue.f k l i) (dropped l i) := by
  obtain ⟨K, hK⟩ := Ev.get (pzGood_ev l)
  refine Ev.mk K (fun k hk => ?_)
  unfold spec_DropClue.f dropped
  rw [hK k hk, Option.bind_some]
  cases hg : good l
  · simp
  have hs := good_len hg
  rw [if_pos rfl, w64 (by omega) (by omega), l1In_eq, Option.bind_some]
  cases hi : inb i 0 ((l.length : Int) - 1)
  · simp
  have b := inb_of hi
  have e : i = ((i.toNat : Nat) : Int) := by omega
  rw [if_pos rfl]
  rw [show spec_pzWithout.f l i = some (l.eraseIdx i.toNat) by rw [e]; exact pzWithout_eq hs (by omega)]
  rfl
theorem added_len (l : List S28) (c : S28) : (added l c).1.length ≤ 6 := by
  unfold added; split
  · rename_i h; exact good_len h
  · simp
theorem dropped_len (l : List S28) (i : Int) : (dropped l i).1.length ≤ 6 := by
  unfold dropped; split
  · rename_i h; simp only [Bool.and_eq_true] at h; exact good_len (good_erase h.1 _)
  · simp
theorem made_len (u d n s : Int) : (made u d n s).1.length ≤ 6 := by
  unfold made; split
  · rename_i h; simp only [Bool.and_eq_true] at h; have := inb_of h.1.2; simp [gen_len]; omega
  · simp
/-! ### Harder puzzles -/
theorem unsolved_ev {l : List S28} (h : ¬ (good l = true ∧ (sols l).length = 1)) : Ev (fun k => impl_HarderPuzzle.f k l) ([], false) ∧ Ev (fun k => spec_HarderPuzzle.f k l) ([], false) := by
  have b1 : Ev (fun k => impl_HarderPuzzle.j0 k true l) (([] : List S28), false) := Ev.step (g := fun _ => some ([], false)) (Ev.all fun _ => rfl) (fun k => by simp [impl_HarderPuzzle.j0])
  have b2 : Ev (fun k => spec_HarderPuzzle.j0 k true l) (([] : List S28), false) := Ev.step (g := fun _ => some ([], false)) (Ev.all fun _ => rfl) (fun k => by simp [spec_HarderPuzzle.j0])
  obtain ⟨K1, h1⟩ := Ev.get (b1); obtain ⟨K2, h2⟩ := Ev.get (b2); obtain ⟨K3, h3⟩ := Ev.get (IsPuzzle_ev l); obtain ⟨K4, h4⟩ := Ev.get (pzGood_ev l)
  cases hg : good l
  · refine ⟨Ev.mk (max K1 K3) (fun k hk => ?_), Ev.mk (max K2 K4) (fun k hk => ?_)⟩
    · unfold impl_HarderPuzzle.f; rw [h3 k (by omega), hg, Option.bind_some, if_neg (by simp)]; exact h1 k (by omega)
    · unfold spec_HarderPuzzle.f; rw [h4 k (by omega), hg, Option.bind_some, if_neg (by simp)]; exact h2 k (by omega)
  · have hq : (sols l).length ≠ 1 := fun e => h ⟨hg, e⟩
    obtain ⟨K5, h5⟩ := Ev.get (solutions_ev (good_ok hg)); obtain ⟨K6, h6⟩ := Ev.get (pzSolved_ev (good_ok hg) (good_len hg))
    refine ⟨Ev.mk (max K1 (max K3 K5)) (fun k hk => ?_), Ev.mk (max K2 (max K4 K6)) (fun k hk => ?_)⟩
    · unfold impl_HarderPuzzle.f; rw [h3 k (by omega), hg, Option.bind_some, if_pos rfl, h5 k (by omega), Option.bind_some, show (((sols l).length : Int) != 1) = true by simp; omega]; exact h1 k (by omega)
    · unfold spec_HarderPuzzle.f; rw [h4 k (by omega), hg, Option.bind_some, if_pos rfl, h6 k (by omega), Option.bind_some, show (!decide ((sols l).length = 1)) = true by simpa using hq]; exact h2 k (by omega)
theorem solved_ev {l : List S28} (hg : good l = true) (hq : (sols l).length = 1) : ∃ h, Ev (fun k => impl_HarderPuzzle.f k l) (h, true) ∧ Ev (fun k => spec_HarderPuzzle.f k l) (h, true) ∧ h.Sublist l ∧ (sols h).length = 1 ∧ ∀ j, j < h.length → (sols (h.eraseIdx j)).length ≠ 1 := by
  have hs := good_len hg
  obtain ⟨h, a, b, c, d, e⟩ := harder_ev l.length l 0 hg (by omega) hq (fun j hj => by omega)
  refine ⟨h, ?_, ?_, c, d, e⟩
  · have a2 : Ev (fun k => impl_HarderPuzzle.j0 k false l) (h, true) := Ev.step a (fun k => by simp only [impl_HarderPuzzle.j0]; rw [if_neg (by simp), clone_eq (by omega), Option.bind_some]; rfl)
    obtain ⟨K1, h1⟩ := Ev.get (a2); obtain ⟨K3, h3⟩ := Ev.get (IsPuzzle_ev l); obtain ⟨K5, h5⟩ := Ev.get (solutions_ev (good_ok hg))
    refine Ev.mk (max K1 (max K3 K5)) (fun k hk => ?_)
    unfold impl_HarderPuzzle.f; rw [h3 k (by omega), hg, Option.bind_some, if_pos rfl, h5 k (by omega), Option.bind_some, show (((sols l).length : Int) != 1) = false by simp; omega]; exact h1 k (by omega)
  · have b2 : Ev (fun k => spec_HarderPuzzle.j0 k false l) (h, true) := Ev.step b (fun k => by simp only [spec_HarderPuzzle.j0]; rw [if_neg (by simp), Option.bind_some, if_pos (by rw [List.length_nil]; omega)]; rfl)
    obtain ⟨K1, h1⟩ := Ev.get (b2); obtain ⟨K3, h3⟩ := Ev.get (pzGood_ev l); obtain ⟨K5, h5⟩ := Ev.get (pzSolved_ev (good_ok hg) hs)
    refine Ev.mk (max K1 (max K3 K5)) (fun k hk => ?_)
    unfold spec_HarderPuzzle.f; rw [h3 k (by omega), hg, Option.bind_some, if_pos rfl, h5 k (by omega), Option.bind_some, show (!decide ((sols l).length = 1)) = false by simpa using hq]; exact h1 k (by omega)
theorem IsSolved_ev (l : List S28) : Ev (fun k => impl_IsSolved.f k l) (if good l then (decide ((sols l).length = 1), true) else (false, false)) := by
  obtain ⟨K3, h3⟩ := Ev.get (IsPuzzle_ev l)
  cases hg : good l
  · refine Ev.mk K3 (fun k hk => ?_); unfold impl_IsSolved.f; rw [h3 k (by omega), hg]; rfl
  · obtain ⟨K5, h5⟩ := Ev.get (solutions_ev (good_ok hg))
    refine Ev.mk (max K3 K5) (fun k hk => ?_); unfold impl_IsSolved.f; rw [h3 k (by omega), hg, Option.bind_some, if_pos rfl, h5 k (by omega), Option.bind_some]
    have : (((sols l).length : Int) == 1) = decide ((sols l).length = 1) := by by_cases h : (sols l).length = 1 <;> simp [h] <;> omega
    rw [this]; rfl
theorem Solutions_ev {l : List S28} (hg : good l = true) : Ev (fun k => impl_Solutions.f k l) (sols l, true) := by
  obtain ⟨K3, h3⟩ := Ev.get (IsPuzzle_ev l); obtain ⟨K5, h5⟩ := Ev.get (solutions_ev (good_ok hg))
  refine Ev.mk (max K3 K5) (fun k hk => ?_); unfold impl_Solutions.f; rw [h3 k (by omega), hg, Option.bind_some, if_pos rfl, h5 k (by omega)]; rfl
theorem Needless_ev {h : List S28} (hg : good h = true) (hq : (sols h).length = 1) (hn : ∀ j, j < h.length → (sols (h.eraseIdx j)).length ≠ 1) : Ev (fun k => impl_NeedlessClues.f k h) ([], true) := by
  obtain ⟨K3, h3⟩ := Ev.get (IsPuzzle_ev h); obtain ⟨K5, h5⟩ := Ev.get (solutions_ev (good_ok hg)); obtain ⟨K6, h6⟩ := Ev.get (needless_ev hg hn h.length 0 (by omega))
  refine Ev.mk (max K3 (max K5 K6)) (fun k hk => ?_); unfold impl_NeedlessClues.f; rw [h3 k (by omega), hg, Option.bind_some, if_pos rfl, h5 k (by omega), Option.bind_some, hq]; exact h6 k (by omega)
end Go.Proofs.Ytlpjooijkeadbaa.PureA
