/- The law 'FnSnailsHidden' as a plain law, joined (under way). -/
import Derived.Test.YtlpjooijkeadbaaPureE
namespace Go.Proofs.Ytlpjooijkeadbaa.PureA
open Go Go.RowKit Go.Proofs.Ytlpjooijkeadbaa.PH Go.Proofs.YtlpjooijkeadbaaW.PrintWords Go.Proofs.YtlpjooijkeadbaaW.PrintLast Go.Proofs.YtlpjooijkeadbaaW.PrintMore
set_option linter.unusedVariables false
set_option linter.unusedSimpArgs false
theorem rd_get' {l : List S28} {i : Nat} (h : i < l.length) : rd_T28 l (i : Int) = l[i] := by simp [rd_T28, h]
theorem k8_ev {t dr : List S28} {i : Int} {b : Bool} (h : b = true → good t = true ∧ 0 ≤ i ∧ i = (t.length : Int) - 1 ∧ dr = t.eraseIdx i.toNat) : Ev (fun k => laws_FnSnailsHidden.j8 k i b t dr) true := by
  cases b
  · exact Ev.step (g := fun _ => some true) (Ev.all fun _ => rfl) (fun k => by simp [laws_FnSnailsHidden.j8])
  obtain ⟨hg, h0, hi, hd⟩ := h rfl
  have hs := good_len hg
  have hil : i.toNat < t.length := by omega
  have ei : i = ((i.toNat : Nat) : Int) := by omega
  have hback : dr ++ [rd_T28 t i] = t := by
    rw [hd, ei, Int.toNat_natCast, rd_get' hil]
    have : i.toNat = t.length - 1 := by omega
    simp only [this]
    rw [List.eraseIdx_eq_take_drop_succ, show t.length - 1 + 1 = t.length by omega, List.drop_length, List.append_nil]
    have hne : t ≠ [] := by intro e; simp [e] at hil
    rw [← List.dropLast_eq_take]
    have := List.dropLast_concat_getLast hne
    rwa [List.getLast_eq_getElem hne] at this
  obtain ⟨K, hK⟩ := Ev.get (implAdd_ev (l := dr) (by rw [hd, List.length_eraseIdx, if_pos hil]; omega) (rd_T28 t i).f0 (rd_T28 t i).f1 (rd_T28 t i).f2)
  obtain ⟨L, hL⟩ := Ev.get (qClues_ev hs)
  have ha : added dr ⟨(rd_T28 t i).f0, (rd_T28 t i).f1, (rd_T28 t i).f2⟩ = (t, true) := by
    unfold added; rw [show (⟨(rd_T28 t i).f0, (rd_T28 t i).f1, (rd_T28 t i).f2⟩ : S28) = rd_T28 t i from rfl, hback, if_pos hg]
  rw [ha] at hK
  refine Ev.step (Ev.mk (max K L) (f := fun k => _) (v := true) ?_) (fun k => rfl)
  intro k hk
  simp only [laws_FnSnailsHidden.j8]
  rw [if_pos trivial, if_pos h0, if_pos (by omega), hK k (by omega), Option.bind_some, if_pos rfl, hL k (by omega)]; rfl
theorem k7_ev {t dr : List S28} {i : Int} {b : Bool} (h : b = true → good t = true ∧ 0 ≤ i ∧ i < t.length ∧ dr = t.eraseIdx i.toNat) : Ev (fun k => laws_FnSnailsHidden.j7 k i b t dr) true := by
  cases b
  · exact Ev.step (k8_ev (t := t) (dr := dr) (i := i) (b := false) (fun h => by cases h)) (fun k => by simp [laws_FnSnailsHidden.j7])
  obtain ⟨hg, h0, hi, hd⟩ := h rfl
  have hs := good_len hg
  refine Ev.step (k8_ev (t := t) (dr := dr) (i := i) (b := i == wrap64 ((t.length : Int) - 1)) (fun hb => ?_)) (fun k => by simp only [laws_FnSnailsHidden.j7]; rw [if_pos trivial])
  rw [w64 (by omega) (by omega)] at hb
  exact ⟨hg, h0, by simpa using hb, hd⟩
theorem k6_ev {r t : List S28} {c0 c1 c2 i : Int} : Ev (fun k => laws_FnSnailsHidden.j6 k (added r ⟨c0, c1, c2⟩).2 i (dropped t i).2 false r c0 c1 c2 (added r ⟨c0, c1, c2⟩).1 t (dropped t i).1) true := by
  have h7 : Ev (fun k => laws_FnSnailsHidden.j7 k i (dropped t i).2 t (dropped t i).1) true := k7_ev (fun hb => by
    unfold dropped at hb ⊢
    split at hb
    · rename_i hc
      rw [if_pos hc]
      simp only [Bool.and_eq_true] at hc
      have := inb_of hc.2
      exact ⟨hc.1, this.1, by omega, rfl⟩
    · cases hb)
  obtain ⟨K7, h7⟩ := Ev.get h7
  by_cases hg : good (r ++ [⟨c0, c1, c2⟩]) = true
  · have ha : added r ⟨c0, c1, c2⟩ = (r ++ [⟨c0, c1, c2⟩], true) := if_pos hg
    have hs := good_len hg
    have hs' : r.length + 1 ≤ 6 := by simpa using hs
    have hd : dropped (r ++ [⟨c0, c1, c2⟩]) (r.length : Int) = (r, true) := by
      unfold dropped
      rw [if_pos (by rw [hg, Bool.true_and]; simp [inb]), Int.toNat_natCast, List.eraseIdx_append_of_length_le (Nat.le_refl _)]
      simp
    obtain ⟨K, hK⟩ := Ev.get (implDrop_ev (r ++ [⟨c0, c1, c2⟩]) (r.length : Int))
    rw [hd] at hK
    obtain ⟨L, hL⟩ := Ev.get (qClues_ev (l := r) (by omega))
    rw [ha]
    refine Ev.step (Ev.mk (max K7 (max K L)) (f := fun k => _) (v := true) ?_) (fun k => rfl)
    intro k hk
    simp only [laws_FnSnailsHidden.j6]
    have e : rd_T28 (r ++ [⟨c0, c1, c2⟩]) (r.length : Int) = ⟨c0, c1, c2⟩ := by rw [rd_get' (by simp)]; simp
    rw [if_neg (by simp), if_pos trivial, hK k (by omega), Option.bind_some, if_pos rfl, hL k (by omega), Option.bind_some, if_pos rfl, if_pos (by omega), if_pos (by simp; omega), if_neg (by rw [e]; simp)]
    exact h7 k (by omega)
  · have ha : added r ⟨c0, c1, c2⟩ = ([], false) := if_neg hg
    rw [ha]
    refine Ev.step (Ev.mk K7 (f := fun k => _) (v := true) ?_) (fun k => rfl)
    intro k hk
    simp only [laws_FnSnailsHidden.j6]
    rw [if_neg (by simp), if_neg (by simp)]
    exact h7 k (by omega)
theorem k5_ev {l : List Int} (hl : okb l) (hn : (l.length : Int) ≤ 4000000000000000000) : Ev (fun k => laws_FnSnailsHidden.j5 k l) true := by
  obtain ⟨r, c0, c1, c2, er, hr⟩ := DrawAdd_ev hl hn
  obtain ⟨t, i, et⟩ := DrawDrop_ev hl hn
  obtain ⟨d0, d1, d2, s0, s1, ed⟩ := DrawFit_ev hl hn
  obtain ⟨e0, e1, e2, ee⟩ := DrawClue_ev hl hn
  obtain ⟨Ka, ha⟩ := Ev.get er
  obtain ⟨Kb, hb⟩ := Ev.get et
  obtain ⟨Kc, hc⟩ := Ev.get ed
  obtain ⟨Kd, hd⟩ := Ev.get ee
  obtain ⟨K6, h6⟩ := Ev.get (k6_ev (r := r) (t := t) (c0 := c0) (c1 := c1) (c2 := c2) (i := i))
  obtain ⟨K1, h1⟩ := Ev.get (implAdd_ev (l := r) (by omega) c0 c1 c2)
  obtain ⟨K2, h2⟩ := Ev.get (specAdd_ev r c0 c1 c2)
  obtain ⟨K3, h3⟩ := Ev.get (implDrop_ev t i)
  obtain ⟨K4, h4⟩ := Ev.get (specDrop_ev t i)
  obtain ⟨K5, h5⟩ := Ev.get (qClues_ev (added_len r ⟨c0, c1, c2⟩))
  obtain ⟨K8, h8⟩ := Ev.get (qClues_ev (dropped_len t i))
  refine Ev.step (Ev.mk (Ka + Kb + Kc + Kd + K6 + K1 + K2 + K3 + K4 + K5 + K8) (f := fun k => _) (v := true) ?_) (fun k => rfl)
  intro k hk
  simp only [laws_FnSnailsHidden.j5]
  rw [ha k (by omega), Option.bind_some, h1 k (by omega), Option.bind_some, h2 k (by omega), Option.bind_some, hb k (by omega), Option.bind_some, h3 k (by omega), Option.bind_some, h4 k (by omega), Option.bind_some, hc k (by omega), Option.bind_some, DoesFit_eq, Option.bind_some, specDoesFit_eq, Option.bind_some, hd k (by omega), Option.bind_some,
    if_neg (by simp), h5 k (by omega), Option.bind_some, if_pos rfl, if_neg (by simp), h8 k (by omega), Option.bind_some, if_pos rfl, if_neg (by simp), if_neg (by simp), IsClue_eq, Option.bind_some, specIsClue_eq, Option.bind_some, if_neg (by simp)]
  by_cases he : (clue d0 d1 d2 && hid s0 s1) = true
  · rw [if_pos he, IsClue_eq, Option.bind_some]
    rw [Bool.and_eq_true] at he
    rw [he.1]; exact h6 k (by omega)
  · rw [if_neg he]; exact h6 k (by omega)
theorem k3_ev {l : List Int} (hl : okb l) (hn : (l.length : Int) ≤ 4000000000000000000) : Ev (fun k => laws_FnSnailsHidden.j3 k l) true := by
  obtain ⟨q, eq⟩ := DrawHarder_ev hl hn
  obtain ⟨Kq, hqd⟩ := Ev.get eq
  obtain ⟨K5, h5⟩ := Ev.get (k5_ev hl hn)
  obtain ⟨K3, h3⟩ := Ev.get (IsSolved_ev q)
  by_cases hh : good q = true ∧ (sols q).length = 1
  · obtain ⟨hg, hq⟩ := hh
    obtain ⟨h, a, b, c, d, e⟩ := solved_ev hg hq
    have hgh : good h = true := good_mk (Nat.le_trans c.length_le (good_len hg)) (fun x hx => good_ok hg x (c.subset hx))
    have hss : sols h = sols q := by
      have s : (sols q).Sublist (sols h) := sols_sub (fun x hx => c.subset hx)
      exact (s.eq_of_length (by omega)).symm
    obtain ⟨K1, h1⟩ := Ev.get a
    obtain ⟨K2, h2⟩ := Ev.get b
    obtain ⟨K6, h6⟩ := Ev.get (qClues_ev (good_len hgh))
    obtain ⟨K7, h7⟩ := Ev.get (Solutions_ev hg)
    obtain ⟨K8, h8⟩ := Ev.get (Solutions_ev hgh)
    obtain ⟨K9, h9⟩ := Ev.get (Needless_ev hgh d e)
    obtain ⟨K0, h0⟩ := Ev.get (qSnails_ev (l := sols q) (by omega))
    rw [if_pos hg, show decide ((sols q).length = 1) = true by simpa using hq] at h3
    rw [hss] at h8
    have h4 : ∀ k, max K5 (max K7 (max K8 (max K9 K0))) ≤ k → laws_FnSnailsHidden.j4 (k + 1) l true false q h = some true := by
      intro k hk
      simp only [laws_FnSnailsHidden.j4]
      rw [if_neg (by simp), if_pos trivial, h7 k (by omega), Option.bind_some, h8 k (by omega), Option.bind_some, h9 k (by omega), Option.bind_some, if_pos rfl, if_pos rfl, h0 k (by omega), Option.bind_some, if_pos rfl, if_pos rfl, if_pos (by simp), if_neg (by have := c.length_le; omega)]
      exact h5 k (by omega)
    refine Ev.step (Ev.mk (Kq + K1 + K2 + K3 + K6 + K5 + K7 + K8 + K9 + K0 + 1) (f := fun k => _) (v := true) ?_) (fun k => rfl)
    intro k hk
    obtain ⟨m, rfl⟩ : ∃ m, k = m + 1 := ⟨k - 1, by omega⟩
    simp only [laws_FnSnailsHidden.j3]
    rw [hqd (m + 1) (by omega), Option.bind_some, h1 (m + 1) (by omega), Option.bind_some, h2 (m + 1) (by omega), Option.bind_some, h3 (m + 1) (by omega), Option.bind_some, if_neg (by simp), h6 (m + 1) (by omega), Option.bind_some, if_pos rfl, if_pos rfl]
    exact h4 m (by omega)
  · obtain ⟨a, b⟩ := unsolved_ev hh
    obtain ⟨K1, h1⟩ := Ev.get a
    obtain ⟨K2, h2⟩ := Ev.get b
    obtain ⟨K6, h6⟩ := Ev.get (qClues_ev (l := ([] : List S28)) (by simp))
    have h4 : ∀ k, K5 ≤ k → laws_FnSnailsHidden.j4 (k + 1) l false false q [] = some true := by
      intro k hk
      simp only [laws_FnSnailsHidden.j4]
      rw [if_neg (by simp), if_neg (by simp)]
      exact h5 k (by omega)
    refine Ev.step (Ev.mk (Kq + K1 + K2 + K3 + K6 + K5 + 1) (f := fun k => _) (v := true) ?_) (fun k => rfl)
    intro k hk
    obtain ⟨m, rfl⟩ : ∃ m, k = m + 1 := ⟨k - 1, by omega⟩
    simp only [laws_FnSnailsHidden.j3]
    rw [hqd (m + 1) (by omega), Option.bind_some, h1 (m + 1) (by omega), Option.bind_some, h2 (m + 1) (by omega), Option.bind_some, h3 (m + 1) (by omega), Option.bind_some, if_neg (by simp), h6 (m + 1) (by omega), Option.bind_some, if_pos rfl]
    cases hg : good q
    · rw [if_neg (by simp)]; exact h4 m (by omega)
    · have : ¬ (sols q).length = 1 := fun e => hh ⟨hg, e⟩
      rw [if_pos rfl, if_pos rfl, show decide ((sols q).length = 1) = false by simpa using this]; exact h4 m (by omega)
theorem kl_ev {l : List Int} (hl : okb l) (hn : (l.length : Int) ≤ 4000000000000000000) {md : List S28} {u d : Int} (hs : md.length ≤ 6) (hh : hid u d = true) (hm : ∀ c ∈ md, okc c = true ∧ fit c u d = true) : ∀ n j : Nat, md.length = j + n →
    Ev (fun k => laws_FnSnailsHidden.l0 k l md (md.length : Int) (j : Int) u d) true
  | 0, j, hj => Ev.step (k3_ev hl hn) (fun k => by simp only [laws_FnSnailsHidden.l0]; rw [if_neg (by omega)])
  | n + 1, j, hj => by
    have hjl : j < md.length := by omega
    have hc := hm _ (List.getElem_mem hjl)
    refine Ev.step (kl_ev hl hn hs hh hm n (j + 1) (by omega)) (fun k => ?_)
    simp only [laws_FnSnailsHidden.l0]
    rw [if_pos (by omega), if_pos (by omega), if_pos (by omega), rd_get' hjl, DoesFit_eq, Option.bind_some]
    have h1 : clue md[j].f0 md[j].f1 md[j].f2 = true := hc.1
    have h2 : (tell md[j].f0 md[j].f1 u d == md[j].f2) = true := hc.2
    rw [h1, h2, hh]; simp only [Bool.and_self, if_true]; rw [w64 (by omega) (by omega)]; rfl
theorem k0_ev {l : List Int} (hl : okb l) (hn : (l.length : Int) ≤ 4000000000000000000) {u d n s : Int} : Ev (fun k => laws_FnSnailsHidden.j0 k l n (made u d n s).2 false u d (made u d n s).1) true := by
  by_cases hc : (hid u d && inb n 0 6 && inb s 0 9999) = true
  · have hm : made u d n s = (gen u d n.toNat s, true) := if_pos hc
    simp only [Bool.and_eq_true] at hc
    obtain ⟨⟨hh, hnn⟩, hsd⟩ := hc
    have hb := hid_of hh; have bn := inb_of hnn; have bs := inb_of hsd
    have hall := gen_all hb n.toNat s bs.1
    have hlen := gen_len u d n.toNat s
    have hgood : good (gen u d n.toNat s) = true := good_mk (by omega) (fun c hc => (hall c hc).1)
    rw [hm]
    obtain ⟨K1, h1⟩ := Ev.get (IsPuzzle_ev (gen u d n.toNat s))
    obtain ⟨K2, h2⟩ := Ev.get (kl_ev hl hn (by omega) hh hall n.toNat 0 (by omega))
    have hwall : impl_isWalled.f u d 50 = some true ∧ impl_isWalled.f u d 100 = some true ∧ impl_isWall.f 7 = some true := by
      have a1 : inb u 1 1000 = true := by simp [inb]; omega
      have a2 : inb d 0 1000 = true := by simp [inb]; omega
      unfold impl_isWalled.f impl_IsSnail.f impl_isWall.f
      simp only [within_eq, a1, a2, Option.bind_some, if_true]; exact ⟨rfl, rfl, rfl⟩
    have hday := dayOf_eq (a := 50) hb (by omega)
    have hev := evening_eq (a := 7) (t := 100) hb (by omega) (by omega)
    have t0 : tell 0 50 u d = (if (50 : Int) ≤ u then 1 else if u ≤ d then 0 else 1 + Int.tdiv (50 - u + (u - d) - 1) (u - d)) := rfl
    have t1 : tell 1 7 u d = mn 100 (u + mx 0 (u - d) * (7 - 1)) := rfl
    have t4 : tell 4 0 u d = u - d := rfl
    rw [← t0] at hday; rw [← t1] at hev
    have o0 : clue 0 50 (tell 0 50 u d) = true := tell_ok hb (by omega) (by omega) (by omega) (by omega)
    have o1 : clue 1 7 (tell 1 7 u d) = true := tell_ok hb (by omega) (by omega) (by omega) (by omega)
    have o4 : clue 4 0 (tell 4 0 u d) = true := tell_ok hb (by omega) (by omega) (by omega) (by omega)
    have f1 : impl_DaysToTop.f u d 50 = some (tell 0 50 u d, decide (tell 0 50 u d > 0)) := by
      unfold impl_DaysToTop.f; rw [hwall.1, Option.bind_some, if_pos rfl, hday]; rfl
    have f2 : impl_EveningHeight.f u d 100 7 = some (tell 1 7 u d, true) := by
      unfold impl_EveningHeight.f; rw [hwall.2.1, Option.bind_some, if_pos rfl, hwall.2.2, Option.bind_some, if_pos rfl, hev]; rfl
    have hneg : ¬ tell 0 50 u d > 0 → tell 0 50 u d = 0 := by
      intro h
      have : 0 ≤ tell 0 50 u d := by
        have := o0; unfold clue inb at this; simp at this; omega
      omega
    refine Ev.step (Ev.mk (max K1 K2 + 1) (f := fun k => _) (v := true) ?_) (fun k => rfl)
    intro k hk
    obtain ⟨m, rfl⟩ : ∃ m, k = m + 1 := ⟨k - 1, by omega⟩
    have h1j : laws_FnSnailsHidden.j1 (m + 1) l false u d (gen u d n.toNat s) = some true := by
      simp only [laws_FnSnailsHidden.j1]; rw [if_neg (by simp)]; exact h2 m (by omega)
    simp only [laws_FnSnailsHidden.j0]
    rw [if_neg (by simp), if_pos trivial, f1, Option.bind_some, DoesFit_eq, Option.bind_some, f2, Option.bind_some, DoesFit_eq, Option.bind_some, DoesFit_eq, Option.bind_some, h1 (m + 1) (by omega), Option.bind_some, hgood, if_pos rfl, if_pos (by omega)]
    rw [w64 (x := u - d) (by omega) (by omega), ← t4]
    simp only [o0, o1, o4, hh, Bool.and_true, Bool.true_and, beq_self_eq_true, Bool.not_true]
    by_cases hp : tell 0 50 u d > 0
    · rw [if_pos (by simpa using hp)]; simp only [if_true]; exact h1j
    · rw [if_neg (by simpa using hp), if_pos (hneg hp)]; simp only [if_true]; exact h1j
  · have hm : made u d n s = ([], false) := if_neg hc
    rw [hm]
    exact Ev.step (k3_ev hl hn) (fun k => by simp [laws_FnSnailsHidden.j0])
theorem hidden_law {l0 l1 : List Int} (h0 : okb l0) (n0 : (l0.length : Int) ≤ 4000000000000000000) (h1 : okb l1) (n1 : (l1.length : Int) ≤ 4000000000000000000) : ∃ k, laws_FnSnailsHidden.f k l0 l1 = some true := by
  have hb : ∃ t, laws_big.f l0 l1 = some t := by unfold laws_big.f; split <;> exact ⟨_, rfl⟩
  obtain ⟨t, hb⟩ := hb
  cases t
  · obtain ⟨u, d, n, s, e⟩ := DrawMake_eq h0 n0
    obtain ⟨K1, e1⟩ := Ev.get (implMake_ev u d n s)
    obtain ⟨K2, e2⟩ := Ev.get (specMake_ev u d n s)
    obtain ⟨K3, e3⟩ := Ev.get (qClues_ev (made_len u d n s))
    obtain ⟨K4, e4⟩ := Ev.get (k0_ev h1 n1 (u := u) (d := d) (n := n) (s := s))
    refine ⟨K1 + K2 + K3 + K4, ?_⟩
    unfold laws_FnSnailsHidden.f
    rw [hb, Option.bind_some, if_neg (by simp), e, Option.bind_some, e1 _ (by omega), Option.bind_some, e2 _ (by omega), Option.bind_some, if_neg (by simp), e3 _ (by omega), Option.bind_some]
    exact e4 _ (by omega)
  · exact ⟨0, by unfold laws_FnSnailsHidden.f; rw [hb]; rfl⟩
end Go.Proofs.Ytlpjooijkeadbaa.PureA
