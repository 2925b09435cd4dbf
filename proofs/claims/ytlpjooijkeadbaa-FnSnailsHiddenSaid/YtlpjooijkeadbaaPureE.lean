/- The draws out of a letter's bytes: each tells values within its bounds. -/
import Derived.Test.YtlpjooijkeadbaaPHx16
import Derived.Test.YtlpjooijkeadbaaPureA
import Derived.WalkSmall
namespace Go.Proofs.Ytlpjooijkeadbaa.PureA
open Go Go.RowKit Go.Proofs.Ytlpjooijkeadbaa.PH Go.Proofs.YtlpjooijkeadbaaW.PrintWords Go.Proofs.YtlpjooijkeadbaaW.PrintLast Go.Proofs.YtlpjooijkeadbaaW.PrintMore
set_option linter.unusedVariables false
set_option linter.unusedSimpArgs false
theorem bindSome {α β : Type} (a : α) (f : α → Option β) : (some a).bind f = f a := rfl
def okb (l : List Int) : Prop := ∀ x ∈ l, 0 ≤ x ∧ x ≤ 255
theorem rd_b {l : List Int} (h : okb l) (i : Int) : 0 ≤ rd l i ∧ rd l i ≤ 255 := by
  unfold rd
  by_cases hi : i.toNat < l.length
  · rw [List.getD_eq_getElem?_getD, List.getElem?_eq_getElem hi]; exact h _ (List.getElem_mem hi)
  · rw [List.getD_eq_getElem?_getD, List.getElem?_eq_none (by omega)]; simp
theorem u64_range (n : Int) : 0 ≤ IntKind.u64.wrap n ∧ IntKind.u64.wrap n ≤ 18446744073709551615 := by
  rw [IntKind.wrap_u64]; omega
theorem and255 {x : Int} (h0 : 0 ≤ x) (h1 : x ≤ 18446744073709551615) : 0 ≤ Go.bits .and .u64 x 255 ∧ Go.bits .and .u64 x 255 ≤ 255 := by
  have h := bits_and_u64_nat x.toNat 255 (by omega) (by omega)
  have e : ((x.toNat : Nat) : Int) = x := by omega
  rw [e] at h
  have h2 : x.toNat &&& 255 ≤ 255 := Nat.and_le_right
  have h' : Go.bits .and .u64 x 255 = ((x.toNat &&& 255 : Nat) : Int) := h
  rw [h']; omega
theorem next_eq {l : List Int} (hl : okb l) {p : Int} (h0 : 0 ≤ p) (h1 : p ≤ 4000000000000000000) (hn : (l.length : Int) ≤ 4000000000000000000) (x : Int) : ∃ v x', spec_l1Cur_next.f l p x = some (v, p + 1, x') ∧ 0 ≤ v ∧ v ≤ 255 := by
  unfold spec_l1Cur_next.f
  have e : wrap64 (p + 1) = p + 1 := w64 (by omega) (by omega)
  rw [e]
  by_cases c : p < (l.length : Int)
  · rw [if_pos c, if_pos h0, if_pos (by omega)]
    have b := rd_b hl p
    exact ⟨_, _, rfl, by rw [w64 (by omega) (by omega)]; exact b.1, by rw [w64 (by omega) (by omega)]; exact b.2⟩
  · rw [if_neg c, if_neg (by omega)]
    refine ⟨_, _, rfl, ?_⟩
    have u := u64_range (IntKind.u64.wrap (IntKind.u64.wrap (x * 6364136223846793005)) + 1442695040888963407)
    have b := and255 (x := IntKind.u64.wrap (IntKind.u64.wrap (IntKind.u64.wrap (x * 6364136223846793005)) + 1442695040888963407) / 1099511627776) (by omega) (by omega)
    rw [w64 (by omega) (by omega)]; exact b
theorem pick_eq {l : List Int} (hl : okb l) (hn : (l.length : Int) ≤ 4000000000000000000) {p : Int} (h0 : 0 ≤ p) (h1 : p ≤ 3000000000000000000) (x a : Int) : ∃ v p' x', spec_l1Cur_pick.f l p x a = some (v, p', x') ∧ 0 ≤ v ∧ (1 ≤ a → v < a) ∧ p ≤ p' ∧ p' ≤ p + 2 := by
  unfold spec_l1Cur_pick.f
  by_cases c : a ≤ 1
  · rw [if_pos c]; exact ⟨0, p, x, rfl, by omega, by omega, by omega, by omega⟩
  rw [if_neg c]
  obtain ⟨v, x1, e1, b1, b2⟩ := next_eq hl h0 (by omega) hn x
  rw [e1, Option.bind_some]
  by_cases c2 : a > 200
  · rw [if_pos c2]
    obtain ⟨v2, x2, e2, d1, d2⟩ := next_eq hl (p := p + 1) (by omega) (by omega) hn x1
    show ∃ v' p' x', (spec_l1Cur_next.f l (p + 1) x1).bind _ = _ ∧ _
    rw [e2, Option.bind_some, if_neg (by omega)]
    have t := tm (x := wrap64 (wrap64 (v * 256) + v2)) (n := a) (by rw [w64 (x := v * 256) (by omega) (by omega), w64 (by omega) (by omega)]; omega) (by omega)
    exact ⟨_, _, _, rfl, t.1, fun _ => t.2, by show p ≤ p + 1 + 1; omega, by show p + 1 + 1 ≤ p + 2; omega⟩
  · rw [if_neg c2, if_neg (by omega)]
    have t := tm (x := v) (n := a) b1 (by omega)
    exact ⟨_, _, _, rfl, t.1, fun _ => t.2, by show p ≤ p + 1; omega, by show p + 1 ≤ p + 2; omega⟩
theorem one_eq {l : List Int} (hl : okb l) (hn : (l.length : Int) ≤ 4000000000000000000) {p : Int} (h0 : 0 ≤ p) (h1 : p ≤ 3000000000000000000) (x a : Int) : ∃ b p' x', spec_l1Cur_one.f l p x a = some (b, p', x') ∧ p ≤ p' ∧ p' ≤ p + 2 := by
  obtain ⟨v, p', x', e, _, _, b, c⟩ := pick_eq hl hn h0 h1 x a
  unfold spec_l1Cur_one.f; rw [e]; exact ⟨_, _, _, rfl, b, c⟩
theorem among_eq {l : List Int} (hl : okb l) (hn : (l.length : Int) ≤ 4000000000000000000) {p : Int} (h0 : 0 ≤ p) (h1 : p ≤ 3000000000000000000) (x : Int) {m : List Int} (hm : 0 < m.length) : ∃ v p' x', spec_l1Cur_among.f l p x m = some (v, p', x') ∧ p ≤ p' ∧ p' ≤ p + 2 := by
  obtain ⟨v, p', x', e, a, a2, b, c⟩ := pick_eq hl hn h0 h1 x (m.length : Int)
  have := a2 (by omega)
  unfold spec_l1Cur_among.f; rw [e, Option.bind_some, if_pos a, if_pos this]; exact ⟨_, _, _, rfl, b, c⟩
theorem sureSnail_eq {l : List Int} (hl : okb l) (hn : (l.length : Int) ≤ 4000000000000000000) {p : Int} (h0 : 0 ≤ p) (h1 : p ≤ 2000000000000000000) (x : Int) : ∃ u d p' x', spec_l1Cur_sureSnail.f l p x = some (u, d, p', x') ∧ p ≤ p' ∧ p' ≤ p + 10 := by
  obtain ⟨b, p1, x1, e1, a1, a2⟩ := one_eq hl hn h0 (by omega) x 6
  unfold spec_l1Cur_sureSnail.f; rw [e1, Option.bind_some]
  cases b
  · obtain ⟨v, p2, x2, e2, _, _, b1, b2⟩ := pick_eq hl hn (p := p1) (by omega) (by omega) x1 9
    obtain ⟨v3, p3, x3, e3, _, _, c1, c2⟩ := pick_eq hl hn (p := p2) (by omega) (by omega) x2 (wrap64 ((wrap64 (1 + v)) + 1))
    rw [if_neg (by simp), e2, Option.bind_some, e3]; exact ⟨_, _, _, _, rfl, by show p ≤ p3; omega, by show p3 ≤ p + 10; omega⟩
  · obtain ⟨v, p2, x2, e2, b1, b2⟩ := among_eq hl hn (p := p1) (by omega) (by omega) x1 (m := [1, 7, 1000]) (by simp)
    obtain ⟨v3, p3, x3, e3, c1, c2⟩ := among_eq hl hn (p := p2) (by omega) (by omega) x2 (m := [0, 1, 7, 999, 1000]) (by simp)
    rw [if_pos rfl, e2, Option.bind_some, e3]; exact ⟨_, _, _, _, rfl, by show p ≤ p3; omega, by show p3 ≤ p + 10; omega⟩
theorem snail_eq {l : List Int} (hl : okb l) (hn : (l.length : Int) ≤ 4000000000000000000) {p : Int} (h0 : 0 ≤ p) (h1 : p ≤ 1000000000000000000) (x : Int) : ∃ u d p' x', spec_l1Cur_snail.f l p x = some (u, d, p', x') ∧ p ≤ p' ∧ p' ≤ p + 20 := by
  obtain ⟨b, p1, x1, e1, a1, a2⟩ := one_eq hl hn h0 (by omega) x 14
  unfold spec_l1Cur_snail.f; rw [e1, Option.bind_some]
  cases b
  · obtain ⟨u, d, p2, x2, e2, b1, b2⟩ := sureSnail_eq hl hn (p := p1) (by omega) (by omega) x1
    rw [if_neg (by simp), e2]; exact ⟨_, _, _, _, rfl, by show p ≤ p2; omega, by show p2 ≤ p + 20; omega⟩
  · obtain ⟨v, p2, x2, e2, b1, b2⟩ := among_eq hl hn (p := p1) (by omega) (by omega) x1 (m := [(-1), 0, 1, 1001, 4611686018427387904]) (by simp)
    obtain ⟨v3, p3, x3, e3, c1, c2⟩ := among_eq hl hn (p := p2) (by omega) (by omega) x2 (m := [(-1), 0, 1, 1001, (-9223372036854775808)]) (by simp)
    rw [if_pos rfl, e2, Option.bind_some, e3]; exact ⟨_, _, _, _, rfl, by show p ≤ p3; omega, by show p3 ≤ p + 20; omega⟩
theorem hidden_eq {l : List Int} (hl : okb l) (hn : (l.length : Int) ≤ 4000000000000000000) {p : Int} (h0 : 0 ≤ p) (h1 : p ≤ 1000000000000000000) (x : Int) : ∃ u d p' x', spec_l1Cur_hidden.f l p x = some (u, d, p', x') ∧ (1 ≤ u ∧ u ≤ 12 ∧ 0 ≤ d ∧ d ≤ 12) ∧ p ≤ p' ∧ p' ≤ p + 4 := by
  obtain ⟨v, p1, x1, e1, a, b, c, d⟩ := pick_eq hl hn h0 (by omega) x 12
  obtain ⟨v2, p2, x2, e2, a', b', c', d'⟩ := pick_eq hl hn (p := p1) (by omega) (by omega) x1 13
  have := b (by omega); have := b' (by omega)
  unfold spec_l1Cur_hidden.f; rw [e1, Option.bind_some, e2]
  refine ⟨1 + v, v2, p2, x2, ?_, by omega, by omega, by omega⟩
  rw [Option.bind_some]; show some (wrap64 (1 + v), v2, p2, x2) = _; rw [w64 (by omega) (by omega)]
theorem DrawMake_eq {l : List Int} (hl : okb l) (hn : (l.length : Int) ≤ 4000000000000000000) : ∃ u d n s, spec_DrawMakePuzzle.f l = some (u, d, n, s) := by
  obtain ⟨b, p1, x1, e1, a1, a2⟩ := one_eq hl hn (p := 0) (by omega) (by omega) 0 12
  unfold spec_DrawMakePuzzle.f; rw [e1, Option.bind_some]
  cases b
  · obtain ⟨u, d, p2, x2, e2, _, b1, b2⟩ := hidden_eq hl hn (p := p1) (by omega) (by omega) x1
    obtain ⟨v3, p3, x3, e3, _, _, c1, c2⟩ := pick_eq hl hn (p := p2) (by omega) (by omega) x2 7
    obtain ⟨v4, p4, x4, e4, _, _, d1, d2⟩ := pick_eq hl hn (p := p3) (by omega) (by omega) x3 10000
    rw [if_neg (by simp), e2, Option.bind_some, e3, Option.bind_some, e4]; exact ⟨_, _, _, _, rfl⟩
  · obtain ⟨u, d, p2, x2, e2, b1, b2⟩ := snail_eq hl hn (p := p1) (by omega) (by omega) x1
    obtain ⟨v3, p3, x3, e3, c1, c2⟩ := among_eq hl hn (p := p2) (by omega) (by omega) x2 (m := [(-1), 6, 7]) (by simp)
    obtain ⟨v4, p4, x4, e4, d1, d2⟩ := among_eq hl hn (p := p3) (by omega) (by omega) x3 (m := [(-1), 9999, 10000]) (by simp)
    rw [if_pos rfl, e2, Option.bind_some, e3, Option.bind_some, e4]; exact ⟨_, _, _, _, rfl⟩
theorem clue_ev {l : List Int} (hl : okb l) (hn : (l.length : Int) ≤ 4000000000000000000) {p : Int} (h0 : 0 ≤ p) (h1 : p ≤ 1000000000000000000) (x : Int) : ∃ a b c p' x', Ev (fun k => spec_l1Cur_clue.f k l p x) (a, b, c, p', x') ∧ p ≤ p' ∧ p' ≤ p + 40 := by
  have hj1 : ∀ (p x a b c : Int), 0 ≤ p → p ≤ 2000000000000000000 → ∃ a' b' c' p' x', Ev (fun k => spec_l1Cur_clue.j1 k l p x a b c) (a', b', c', p', x') ∧ p ≤ p' ∧ p' ≤ p + 4 := by
    intro p x a b c h0 h1
    by_cases c3 : a = 3
    · obtain ⟨v, p1, x1, e1, _, _, b1, b2⟩ := pick_eq hl hn h0 (by omega) x 10
      obtain ⟨v2, p2, x2, e2, _, _, c1, c2⟩ := pick_eq hl hn (p := p1) (by omega) (by omega) x1 3
      exact ⟨a, wrap64 (1 + v), v2, p2, x2, Ev.step (g := fun _ => some (a, wrap64 (1 + v), v2, p2, x2)) (Ev.all fun _ => rfl) (fun k => by simp only [spec_l1Cur_clue.j1]; rw [if_pos c3, e1, Option.bind_some, e2]; rfl), by omega, by omega⟩
    · exact ⟨a, b, c, p, x, Ev.step (g := fun _ => some (a, b, c, p, x)) (Ev.all fun _ => rfl) (fun k => by simp only [spec_l1Cur_clue.j1]; rw [if_neg c3]), by omega, by omega⟩
  have hj0 : ∀ (t : Bool) (p x a b c : Int), 0 ≤ p → p ≤ 1500000000000000000 → ∃ a' b' c' p' x', Ev (fun k => spec_l1Cur_clue.j0 k t l p x a b c) (a', b', c', p', x') ∧ p ≤ p' ∧ p' ≤ p + 8 := by
    intro t p x a b c h0 h1
    cases t
    · obtain ⟨a', b', c', p', x', e, d1, d2⟩ := hj1 p x a b c h0 (by omega)
      exact ⟨a', b', c', p', x', Ev.step e (fun k => by simp only [spec_l1Cur_clue.j0]; rw [if_neg (by simp)]), by omega, by omega⟩
    · obtain ⟨v, p1, x1, e1, _, _, b1, b2⟩ := pick_eq hl hn h0 (by omega) x 20
      obtain ⟨v2, p2, x2, e2, _, _, c1, c2⟩ := pick_eq hl hn (p := p1) (by omega) (by omega) x1 9
      obtain ⟨a', b', c', p', x', e, d1, d2⟩ := hj1 p2 x2 a (wrap64 ((wrap64 (1 + v)) - (wrap64 (Int.tdiv v2 8)))) c (by omega) (by omega)
      exact ⟨a', b', c', p', x', Ev.step e (fun k => by simp only [spec_l1Cur_clue.j0]; rw [if_pos trivial, e1, Option.bind_some, e2]; rfl), by omega, by omega⟩
  obtain ⟨v, p1, x1, e1, _, _, b1, b2⟩ := pick_eq hl hn h0 (by omega) x 5
  obtain ⟨v2, p2, x2, e2, _, _, c1, c2⟩ := pick_eq hl hn (p := p1) (by omega) (by omega) x1 9
  obtain ⟨v3, p3, x3, e3, _, _, d1, d2⟩ := pick_eq hl hn (p := p2) (by omega) (by omega) x2 12
  obtain ⟨v4, p4, x4, e4, _, _, f1, f2⟩ := pick_eq hl hn (p := p3) (by omega) (by omega) x3 9
  unfold spec_l1Cur_clue.f
  simp only [e1, e2, e3, e4, bindSome]
  by_cases g : (wrap64 (v + (wrap64 (Int.tdiv v2 8)))) < 2
  · obtain ⟨a', b', c', p', x', e, g1, g2⟩ := hj0 true p4 x4 (wrap64 (v + (wrap64 (Int.tdiv v2 8)))) 0 (wrap64 (v3 - (wrap64 (Int.tdiv v4 8)))) (by omega) (by omega)
    exact ⟨a', b', c', p', x', Ev.cong e (fun k => if_pos g), by omega, by omega⟩
  by_cases g3 : (wrap64 (v + (wrap64 (Int.tdiv v2 8)))) = 3
  · obtain ⟨a', b', c', p', x', e, g1, g2⟩ := hj0 true p4 x4 (wrap64 (v + (wrap64 (Int.tdiv v2 8)))) 0 (wrap64 (v3 - (wrap64 (Int.tdiv v4 8)))) (by omega) (by omega)
    exact ⟨a', b', c', p', x', Ev.cong e (fun k => (if_neg g).trans (if_pos g3)), by omega, by omega⟩
  obtain ⟨t, p5, x5, e5, i1, i2⟩ := one_eq hl hn (p := p4) (by omega) (by omega) x4 10
  obtain ⟨a', b', c', p', x', e, g1, g2⟩ := hj0 t p5 x5 (wrap64 (v + (wrap64 (Int.tdiv v2 8)))) 0 (wrap64 (v3 - (wrap64 (Int.tdiv v4 8)))) (by omega) (by omega)
  exact ⟨a', b', c', p', x', Ev.cong e (fun k => (if_neg g).trans ((if_neg g3).trans (by rw [e5]; rfl))), by omega, by omega⟩
theorem surePuzzle_ev {l : List Int} (hl : okb l) (hn : (l.length : Int) ≤ 4000000000000000000) {p : Int} (h0 : 0 ≤ p) (h1 : p ≤ 1000000000000000000) (x a : Int) : ∃ m p' x', Ev (fun k => spec_l1Cur_surePuzzle.f k l p x a) (m, p', x') ∧ m.length ≤ 6 ∧ p ≤ p' ∧ p' ≤ p + 10 := by
  obtain ⟨u, d, p1, x1, e1, _, a1, a2⟩ := hidden_eq hl hn h0 h1 x
  obtain ⟨v2, p2, x2, e2, _, _, c1, c2⟩ := pick_eq hl hn (p := p1) (by omega) (by omega) x1 (wrap64 (a + 1))
  obtain ⟨v3, p3, x3, e3, _, _, d1, d2⟩ := pick_eq hl hn (p := p2) (by omega) (by omega) x2 10000
  obtain ⟨K, hK⟩ := Ev.get (specMake_ev u d v2 v3)
  refine ⟨(made u d v2 v3).1, p3, x3, Ev.mk K (fun k hk => ?_), made_len _ _ _ _, by omega, by omega⟩
  unfold spec_l1Cur_surePuzzle.f
  rw [e1, bindSome, e2, bindSome, e3, bindSome, hK k hk]; rfl
theorem fill_step {l : List Int} {m : List S28} {p x v p1 x1 : Int} {k : Nat} (e1 : spec_l1Cur_pick.f l p x 2 = some (v, p1, x1)) : spec_l1Cur_puzzle.l0 (k + 1) l p x m = (if (m.length : Int) < (wrap64 (6 + v)) then (if m.length < 5864062014805 then (spec_l1Cur_puzzle.l0 k l p1 x1 (m ++ [(⟨2, 0, 9⟩ : S28)])) else (none)) else (some (m, p1, x1))) := by
  simp only [spec_l1Cur_puzzle.l0]; rw [e1, bindSome]
theorem fill_ev {l : List Int} (hl : okb l) (hn : (l.length : Int) ≤ 4000000000000000000) (n : Nat) : ∀ (m : List S28) (p x : Int), m.length + n = 8 → 0 ≤ p → p ≤ 200000 - 10 * (n : Int) → ∃ m' p' x', Ev (fun k => spec_l1Cur_puzzle.l0 k l p x m) (m', p', x') ∧ m'.length ≤ 8 ∧ p ≤ p' ∧ p' ≤ p + 10 * (n : Int) + 10 := by
  induction n with
  | zero =>
    intro m p x hm h0 h1
    obtain ⟨v, p1, x1, e1, a1, a2, b1, b2⟩ := pick_eq hl hn h0 (by omega) x 2
    have := a2 (by omega)
    have ew : wrap64 (6 + v) = 6 + v := w64 (by omega) (by omega)
    refine ⟨m, p1, x1, Ev.step (g := fun _ => some (m, p1, x1)) (Ev.all fun _ => rfl) (fun k => ?_), by omega, by omega, by omega⟩
    rw [fill_step e1, ew, if_neg (by omega)]
  | succ n ih =>
    intro m p x hm h0 h1
    obtain ⟨v, p1, x1, e1, a1, a2, b1, b2⟩ := pick_eq hl hn h0 (by omega) x 2
    have := a2 (by omega)
    have ew : wrap64 (6 + v) = 6 + v := w64 (by omega) (by omega)
    by_cases c : (m.length : Int) < 6 + v
    · obtain ⟨m', p', x', e, g1, g2, g3⟩ := ih (m ++ [⟨2, 0, 9⟩]) p1 x1 (by rw [List.length_append]; show m.length + 1 + n = 8; omega) (by omega) (by omega)
      refine ⟨m', p', x', Ev.step e (fun k => ?_), g1, by omega, by omega⟩
      rw [fill_step e1, ew, if_pos c, if_pos (by omega)]
    · refine ⟨m, p1, x1, Ev.step (g := fun _ => some (m, p1, x1)) (Ev.all fun _ => rfl) (fun k => ?_), by omega, by omega, by omega⟩
      rw [fill_step e1, ew, if_neg c]
theorem puzzle_ev {l : List Int} (hl : okb l) (hn : (l.length : Int) ≤ 4000000000000000000) {p : Int} (h0 : 0 ≤ p) (h1 : p ≤ 100000) (x : Int) : ∃ m p' x', Ev (fun k => spec_l1Cur_puzzle.f k l p x) (m, p', x') ∧ m.length ≤ 8 ∧ p ≤ p' ∧ p' ≤ p + 200 := by
  obtain ⟨m, p1, x1, e1, a0, a1, a2⟩ := surePuzzle_ev hl hn h0 (by omega) x 5
  obtain ⟨v2, p2, x2, e2, _, _, c1, c2⟩ := pick_eq hl hn (p := p1) (by omega) (by omega) x1 12
  obtain ⟨K1, h1'⟩ := Ev.get e1
  by_cases c : v2 = 0
  · obtain ⟨a, b, d, p3, x3, e3, d1, d2⟩ := clue_ev hl hn (p := p2) (by omega) (by omega) x2
    obtain ⟨K2, h2'⟩ := Ev.get e3
    refine ⟨m ++ [⟨a, b, d⟩], p3, x3, Ev.mk (max K1 K2) (fun k hk => ?_), by simp; omega, by omega, by omega⟩
    unfold spec_l1Cur_puzzle.f
    rw [h1' k (by omega), bindSome]
    show ((spec_l1Cur_pick.f l p1 x1 12).bind _) = _
    rw [e2, bindSome]
    show (if v2 = 0 then (spec_l1Cur_clue.f k l p2 x2).bind _ else _) = _
    rw [if_pos c, h2' k (by omega), bindSome]
    show (if m.length < 5864062014805 then _ else _) = _
    rw [if_pos (by omega)]
  by_cases c' : v2 = 1
  · obtain ⟨m', p', x', e, g1, g2, g3⟩ := fill_ev hl hn (8 - m.length) m p2 x2 (by omega) (by omega) (by omega)
    obtain ⟨K2, h2'⟩ := Ev.get e
    refine ⟨m', p', x', Ev.mk (max K1 K2) (fun k hk => ?_), g1, by omega, by omega⟩
    unfold spec_l1Cur_puzzle.f
    rw [h1' k (by omega), bindSome]
    show ((spec_l1Cur_pick.f l p1 x1 12).bind _) = _
    rw [e2, bindSome]
    show (if v2 = 0 then _ else if v2 = 1 then spec_l1Cur_puzzle.l0 k l p2 x2 m else _) = _
    rw [if_neg c, if_pos c']; exact h2' k (by omega)
  · refine ⟨m, p2, x2, Ev.mk K1 (fun k hk => ?_), by omega, by omega, by omega⟩
    unfold spec_l1Cur_puzzle.f
    rw [h1' k (by omega), bindSome]
    show ((spec_l1Cur_pick.f l p1 x1 12).bind _) = _
    rw [e2, bindSome]
    show (if v2 = 0 then _ else if v2 = 1 then _ else some (m, p2, x2)) = _
    rw [if_neg c, if_neg c']
theorem DrawHarder_ev {l : List Int} (hl : okb l) (hn : (l.length : Int) ≤ 4000000000000000000) : ∃ q, Ev (fun k => spec_DrawHarderPuzzle.f k l) q := by
  obtain ⟨b, p1, x1, e1, a1, a2⟩ := one_eq hl hn (p := 0) (by omega) (by omega) 0 4
  unfold spec_DrawHarderPuzzle.f
  simp only [e1, bindSome]
  cases b
  · obtain ⟨u, d, p2, x2, e2, hb, b1, b2⟩ := hidden_eq hl hn (p := p1) (by omega) (by omega) x1
    obtain ⟨v3, p3, x3, e3, _, _, c1, c2⟩ := pick_eq hl hn (p := p2) (by omega) (by omega) x2 4
    obtain ⟨v4, p4, x4, e4, _, _, d1, d2⟩ := pick_eq hl hn (p := p3) (by omega) (by omega) x3 10000
    obtain ⟨K1, h1⟩ := Ev.get (specMake_ev u d v3 v4)
    obtain ⟨K2, h2⟩ := Ev.get (pzOf_ev (t := 2) (p := 0) hb (by omega) (by omega))
    obtain ⟨K3, h3⟩ := Ev.get (pzOf_ev (t := 4) (p := 0) hb (by omega) (by omega))
    have hm := made_len u d v3 v4
    refine ⟨(made u d v3 v4).1 ++ [mk 2 0 u d, mk 4 0 u d], Ev.mk (max K1 (max K2 K3)) (fun k hk => ?_)⟩
    rw [if_neg (by simp), e2, bindSome]
    show ((spec_l1Cur_pick.f l p2 x2 4).bind _) = _
    rw [e3, bindSome]
    show ((spec_l1Cur_pick.f l p3 x3 10000).bind _) = _
    rw [e4, bindSome]
    show ((spec_MakePuzzle.f k u d v3 v4).bind _) = _
    rw [h1 k (by omega), bindSome]
    show ((spec_pzOf.f k 2 0 u d).bind _) = _
    rw [h2 k (by omega), bindSome, h3 k (by omega), bindSome, if_pos (by simp; omega)]
  · obtain ⟨m, p2, x2, e2, _, _, _⟩ := puzzle_ev hl hn (p := p1) (by omega) (by omega) x1
    obtain ⟨K1, h1⟩ := Ev.get e2
    refine ⟨m, Ev.mk K1 (fun k hk => ?_)⟩
    rw [if_pos rfl, h1 k hk]; rfl
theorem DrawAdd_ev {l : List Int} (hl : okb l) (hn : (l.length : Int) ≤ 4000000000000000000) : ∃ r a b c, Ev (fun k => spec_DrawAddClue.f k l) (r, a, b, c) ∧ r.length ≤ 8 := by
  obtain ⟨m, p2, x2, e2, hm, f1, f2⟩ := puzzle_ev hl hn (p := 0) (by omega) (by omega) 0
  obtain ⟨a, b, d, p3, x3, e3, d1, d2⟩ := clue_ev hl hn (p := p2) (by omega) (by omega) x2
  obtain ⟨K1, h1⟩ := Ev.get e2
  obtain ⟨K2, h2⟩ := Ev.get e3
  refine ⟨m, a, b, d, Ev.mk (max K1 K2) (fun k hk => ?_), hm⟩
  unfold spec_DrawAddClue.f
  rw [h1 k (by omega), bindSome, h2 k (by omega)]; rfl
theorem DrawDrop_ev {l : List Int} (hl : okb l) (hn : (l.length : Int) ≤ 4000000000000000000) : ∃ r a, Ev (fun k => spec_DrawDropClue.f k l) (r, a) := by
  obtain ⟨m, p2, x2, e2, hm, f1, f2⟩ := puzzle_ev hl hn (p := 0) (by omega) (by omega) 0
  obtain ⟨v3, p3, x3, e3, _, _, c1, c2⟩ := pick_eq hl hn (p := p2) (by omega) (by omega) x2 6
  obtain ⟨v4, p4, x4, e4, _, _, d1, d2⟩ := pick_eq hl hn (p := p3) (by omega) (by omega) x3 9
  obtain ⟨K1, h1⟩ := Ev.get e2
  refine ⟨m, wrap64 (v3 - (wrap64 (Int.tdiv v4 8))), Ev.mk K1 (fun k hk => ?_)⟩
  unfold spec_DrawDropClue.f
  rw [h1 k (by omega), bindSome]
  show ((spec_l1Cur_pick.f l p2 x2 6).bind _) = _
  rw [e3, bindSome]
  show ((spec_l1Cur_pick.f l p3 x3 9).bind _) = _
  rw [e4]; rfl
theorem DrawFit_ev {l : List Int} (hl : okb l) (hn : (l.length : Int) ≤ 4000000000000000000) : ∃ a b c u d, Ev (fun k => spec_DrawDoesFit.f k l) (a, b, c, u, d) := by
  obtain ⟨u, d, p2, x2, e2, hb, b1, b2⟩ := hidden_eq hl hn (p := 0) (by omega) (by omega) 0
  obtain ⟨v3, p3, x3, e3, _, _, c1, c2⟩ := pick_eq hl hn (p := p2) (by omega) (by omega) x2 10000
  obtain ⟨K1, h1⟩ := Ev.get (specMake_ev u d 1 v3)
  have hj : ∀ (t : Bool) (p x : Int) (m : List S28), 0 ≤ p → p ≤ 1000 → (t = true → 0 < m.length) → ∃ a b c u' d', Ev (fun k => spec_DrawDoesFit.j0 k t l p x u d m) (a, b, c, u', d') := by
    intro t p x m h0 h1 ht
    cases t
    · obtain ⟨b, p4, x4, e4, a1, a2⟩ := one_eq hl hn h0 (by omega) x 10
      cases b
      · obtain ⟨a, b, c, p5, x5, e5, d1, d2⟩ := clue_ev hl hn (p := p4) (by omega) (by omega) x4
        exact ⟨a, b, c, u, d, Ev.stepB e5 (g := fun _ => some (a, b, c, u, d)) (Ev.all fun _ => rfl) (fun k hk => by
          simp only [spec_DrawDoesFit.j0]; rw [if_neg (by simp), e4, bindSome]
          show (if false = true then _ else (spec_l1Cur_clue.f k l p4 x4).bind _) = _
          rw [if_neg (by simp), hk]; rfl)⟩
      · obtain ⟨u', d', p5, x5, e5, d1, d2⟩ := snail_eq hl hn (p := p4) (by omega) (by omega) x4
        obtain ⟨a, b, c, p6, x6, e6, f1, f2⟩ := clue_ev hl hn (p := p5) (by omega) (by omega) x5
        exact ⟨a, b, c, u', d', Ev.stepB e6 (g := fun _ => some (a, b, c, u', d')) (Ev.all fun _ => rfl) (fun k hk => by
          simp only [spec_DrawDoesFit.j0]; rw [if_neg (by simp), e4, bindSome]
          show (if true = true then (spec_l1Cur_snail.f l p4 x4).bind _ else _) = _
          rw [if_pos rfl, e5, bindSome]
          show ((spec_l1Cur_clue.f k l p5 x5).bind _) = _
          rw [hk]; rfl)⟩
    · have := ht rfl
      exact ⟨_, _, _, u, d, Ev.step (g := fun _ => some ((rd_T28 m 0).f0, (rd_T28 m 0).f1, (rd_T28 m 0).f2, u, d)) (Ev.all fun _ => rfl) (fun k => by
        simp only [spec_DrawDoesFit.j0]; rw [if_pos trivial, if_pos (by omega)])⟩
  by_cases hm : (made u d 1 v3).2 = true
  · obtain ⟨t, p4, x4, e4, a1, a2⟩ := one_eq hl hn (p := p3) (by omega) (by omega) x3 3
    have hlen : 0 < (made u d 1 v3).1.length := by
      unfold made at hm ⊢
      split at hm
      · rename_i hc; rw [if_pos hc]; simp [gen_len]
      · cases hm
    obtain ⟨a, b, c, u', d', e5⟩ := hj t p4 x4 (made u d 1 v3).1 (by omega) (by omega) (fun _ => hlen)
    obtain ⟨K2, h2⟩ := Ev.get e5
    refine ⟨a, b, c, u', d', Ev.mk (max K1 K2) (fun k hk => ?_)⟩
    unfold spec_DrawDoesFit.f
    rw [e2, bindSome]
    show ((spec_l1Cur_pick.f l p2 x2 10000).bind _) = _
    rw [e3, bindSome]
    show ((spec_MakePuzzle.f k u d 1 v3).bind _) = _
    rw [h1 k (by omega), bindSome, if_pos hm]
    show ((spec_l1Cur_one.f l p3 x3 3).bind _) = _
    rw [e4]; exact h2 k (by omega)
  · obtain ⟨a, b, c, u', d', e5⟩ := hj false p3 x3 (made u d 1 v3).1 (by omega) (by omega) (fun h => by cases h)
    obtain ⟨K2, h2⟩ := Ev.get e5
    refine ⟨a, b, c, u', d', Ev.mk (max K1 K2) (fun k hk => ?_)⟩
    unfold spec_DrawDoesFit.f
    rw [e2, bindSome]
    show ((spec_l1Cur_pick.f l p2 x2 10000).bind _) = _
    rw [e3, bindSome]
    show ((spec_MakePuzzle.f k u d 1 v3).bind _) = _
    rw [h1 k (by omega), bindSome, if_neg hm]; exact h2 k (by omega)
theorem DrawClue_ev {l : List Int} (hl : okb l) (hn : (l.length : Int) ≤ 4000000000000000000) : ∃ a b c, Ev (fun k => spec_DrawIsClue.f k l) (a, b, c) := by
  obtain ⟨t, p1, x1, e1, a1, a2⟩ := one_eq hl hn (p := 0) (by omega) (by omega) 0 3
  unfold spec_DrawIsClue.f
  simp only [e1, bindSome]
  cases t
  · obtain ⟨a, b, c, p2, x2, e2, b1, b2⟩ := clue_ev hl hn (p := p1) (by omega) (by omega) x1
    obtain ⟨K, hK⟩ := Ev.get e2
    exact ⟨a, b, c, Ev.mk K (fun k hk => by rw [if_neg (by simp), hK k hk]; rfl)⟩
  · obtain ⟨v3, p3, x3, e3, _, _, c1, c2⟩ := pick_eq hl hn (p := p1) (by omega) (by omega) x1 6
    obtain ⟨v4, p4, x4, e4, _, _, d1, d2⟩ := pick_eq hl hn (p := p3) (by omega) (by omega) x3 9
    obtain ⟨v5, p5, x5, e5, f1, f2⟩ := among_eq hl hn (p := p4) (by omega) (by omega) x4 (m := [(-1), 0, 0, 1, 2, 9, 10, 100, 101, 4611686018427387904]) (by simp)
    obtain ⟨v6, p6, x6, e6, g1, g2⟩ := among_eq hl hn (p := p5) (by omega) (by omega) x5 (m := [(-13), (-12), (-1), 0, 1, 2, 12, 13, 24, 25, 100, 101]) (by simp)
    refine ⟨wrap64 (v3 - (wrap64 (Int.tdiv v4 8))), v5, v6, Ev.all (fun k => ?_)⟩
    rw [if_pos rfl, e3, bindSome]
    show ((spec_l1Cur_pick.f l p3 x3 9).bind _) = _
    rw [e4, bindSome]
    show ((spec_l1Cur_among.f l p4 x4 _).bind _) = _
    rw [e5, bindSome]
    show ((spec_l1Cur_among.f l p5 x5 _).bind _) = _
    rw [e6]; rfl
end Go.Proofs.Ytlpjooijkeadbaa.PureA
