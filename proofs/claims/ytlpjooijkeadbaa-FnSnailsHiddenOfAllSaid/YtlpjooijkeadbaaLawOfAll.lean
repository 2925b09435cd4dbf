/- Proved: whatever snail, counts, puzzles and clues it is given, the program's law function FnSnailsHiddenOfAll returns true, and all that it is given reads as it did before.
   There is no condition beside the given row's own. -/
import Derived.Test.YtlpjooijkeadbaaRows
import Derived.Test.YtlpjooijkeadbaaPHx11
import Derived.Test.YtlpjooijkeadbaaPureD
import Derived.WalkKit
import Derived.ProofKit
import Derived.OpenShut
import Derived.ShutString
import Derived.ChangeOld
import Derived.Below
import Derived.SizedLaws
import Derived.Deep.Slices
import Derived.Lib.SmallJoins
import Derived.Test.YtlpjooijkeadbaaVSized
namespace Go.Proofs.Ytlpjooijkeadbaa.fnSnailsHiddenOfAll
open Go.ChangeShapes Go.WideShapes Go.ChangeAt Go.RowKit Go.Deep Go.Joins Go.Proofs.Ytlpjooijkeadbaa.PH Go.Proofs.YtlpjooijkeadbaaW.PrintWords
set_option linter.unusedVariables false
theorem own : ownKnob Try.prog.godebug = none := by kernel_rfl
theorem laidOut : laidOutB Try.prog = true := by kernel_rfl
section
variable {H : Type} {enc : TypeId × Value → H} {W : World} {base : Nat} {spare : Nat → Bool} {held : Bool}
theorem add_two (a : Addr) (i j : Nat) : (a.add i).add j = a.add (i + j) := by
  unfold Addr.add
  by_cases h1 : i = 0
  · subst h1; simp
  · by_cases h2 : j = 0
    · subst h2; simp [h1]
    · simp [h1, h2, Nat.add_assoc]
/-- A whole number's cell. -/
theorem int_form {P : Program} {n : Nat} {t : TypeId} {k : IntKind} {v : Value} {y : DataW H × List MemPlace} (ht : P.underlying t = some (.int k)) (h : DataW.trod enc P W base spare held n t [v] = some y) : ∃ a, v = .int k a := by
  cases n with
  | zero => simp [DataW.trod] at h
  | succ n =>
    unfold DataW.trod at h
    rw [ht] at h
    cases v <;> simp at h
    exact ⟨_, by rw [h.1.1]⟩
/-- A snail, given by value. -/
theorem snail_form {r : Reach} {b0 : Nat} {v : Value} {d : DataW H} {p : List MemPlace} (hv : Value.okWide Try.prog W r b0 23 v) (h : DataW.Trod enc Try.prog W base spare held 23 v d p) : ∃ a b, v = .agg #[.int .i64 a, .int .i64 b] := by
  obtain ⟨v0, v1, y0, y1, n, rfl, _, _, h0, h1⟩ := open_agg2 Try.underlying23 (by kernel_rfl) (by kernel_rfl) hv h
  obtain ⟨a, rfl⟩ := int_form Try.underlying3 h0
  obtain ⟨b, rfl⟩ := int_form Try.underlying3 h1
  exact ⟨a, b, rfl⟩
/-- A clue, given by value. -/
theorem clue_form {r : Reach} {b0 : Nat} {v : Value} {d : DataW H} {p : List MemPlace} (hv : Value.okWide Try.prog W r b0 28 v) (h : DataW.Trod enc Try.prog W base spare held 28 v d p) : ∃ a b c, v = .agg #[.int .i64 a, .int .i64 b, .int .i64 c] := by
  obtain ⟨v0, v1, v2, y0, y1, y2, n, rfl, _, _, h0, h1, h2⟩ := open_agg3 Try.underlying28 (by kernel_rfl) (by kernel_rfl) hv h
  obtain ⟨a, rfl⟩ := int_form Try.underlying3 h0
  obtain ⟨b, rfl⟩ := int_form Try.underlying3 h1
  obtain ⟨c, rfl⟩ := int_form Try.underlying3 h2
  exact ⟨a, b, c, rfl⟩
/-- A clue's three cells. -/
theorem clue_cells {n : Nat} {cs : List Value} {y : DataW H × List MemPlace} (h : DataW.trod enc Try.prog W base spare held n 28 cs = some y) : ∃ a b c : Int, cs = [.int .i64 a, .int .i64 b, .int .i64 c] := by
  obtain ⟨y0, y1, y2, m, _, hl, h0, h1, h2⟩ := trod_struct3 Try.underlying28 h
  have hc : Try.prog.cellsOf 28 = 3 := by kernel_rfl
  have hc3 : Try.prog.cellsOf 3 = 1 := by kernel_rfl
  rw [hc] at hl
  match cs, hl with
  | [u0, u1, u2], _ =>
    simp only [hc3, List.drop_zero, List.drop_succ_cons, List.take_succ_cons, List.take_zero] at h0 h1 h2
    obtain ⟨a, rfl⟩ := int_form Try.underlying3 h0
    obtain ⟨b, rfl⟩ := int_form Try.underlying3 h1
    obtain ⟨c, rfl⟩ := int_form Try.underlying3 h2
    exact ⟨a, b, c, rfl⟩
/-- A puzzle, given by value: its row of clues can be read; how long it may be. -/
theorem puzzle_form {r : Reach} {b0 : Nat} {v : Value} {d : DataW H} {p : List MemPlace} (hv : Value.okWide Try.prog W r b0 26 v) (h : DataW.Trod enc Try.prog W base spare held 26 v d p) :
    ∃ (A : Option Addr) (c : Nat) (l : List S28), v = .agg #[.slice A l.length c] ∧ Kd.C k28 W A l.length l ∧ l.length ≤ c ∧
      ∀ {ts : List TypeId} {ds : List (DataW H)} {j : Nat}, (DataW.weightsEach Try.prog ts ds).all (· ≤ reachBytes) = true → ts[j]? = some 26 → ds[j]? = some d → l.length * 24 ≤ 140737488351232 := by
  obtain ⟨cs, rfl, hsz⟩ := okWide_struct Try.underlying26 hv
  have hc : Try.prog.cellsOf 26 = 1 := by kernel_rfl
  have hc24 : Try.prog.cellsOf 24 = 1 := by kernel_rfl
  have hc28 : Try.prog.cellsOf 28 = 3 := by kernel_rfl
  rw [hc] at hsz
  obtain ⟨u, rfl⟩ : ∃ u, cs = #[u] := by
    match cs, hsz with
    | ⟨[u]⟩, _ => exact ⟨u, rfl⟩
  obtain ⟨fuel, hf⟩ := h
  obtain ⟨y0, n, hx, _, h0⟩ := trod_struct1 Try.underlying26 hf
  simp only [Prod.mk.injEq] at hx
  obtain ⟨rfl, rfl⟩ := hx
  have h0 : DataW.trod enc Try.prog W base spare held n 24 [u] = some y0 := by simpa [Value.cells, hc24] using h0
  rcases open_slice Try.underlying24 h0 with ⟨hu, hy⟩ | ⟨a, len, cap, m, n', D, Pl, hu, hb, hl, hm, hmm, hy, hel⟩
  · obtain rfl : u = .slice none 0 0 := by simpa using hu
    refine ⟨none, 0, [], rfl, ⟨rfl, by simp, fun h => absurd h (by simp)⟩, Nat.le_refl _, fun _ _ _ => by simp⟩
  · obtain rfl : u = .slice (some a) len cap := by simpa using hu
    have hlm : len ≤ m := by rw [hmm]; split <;> omega
    rw [hc28] at hel
    haveI : Inhabited S28 := ⟨z28⟩
    obtain ⟨F, hF⟩ := choose_lt (α := S28) (p := fun i c => ∀ (j : Nat) u, [Value.int .i64 c.f0, .int .i64 c.f1, .int .i64 c.f2][j]? = some u → W.cell? (a.add (i * 3 + j)) = some u) (n := m) (fun i hi => by
      obtain ⟨cs', h1, h2⟩ := hel i hi
      obtain ⟨x, y, z, rfl⟩ := clue_cells h2
      obtain ⟨_, _, h3⟩ := World.cells?_some h1
      refine ⟨⟨x, y, z⟩, fun j u hj => ?_⟩
      have hj3 : j < 3 := by have := (List.getElem?_eq_some_iff.1 hj).1; simpa using this
      have := h3 j hj3
      rw [hj] at this
      rwa [add_two] at this)
    refine ⟨some a, cap, (List.range len).map F, by simp, ⟨by simp, by simp; have : maxLen = 9223372036854775807 := rfl; omega, fun _ => ⟨a, rfl, fun j q hq => ?_⟩⟩, by simpa using hl, fun {ts ds j} hw ht hd => ?_⟩
    · have hj : j < len := by have := (List.getElem?_eq_some_iff.1 hq).1; simpa using this
      have hq' : F j = q := by simpa [hj] using hq
      subst hq'
      exact ⟨[.int .i64 (F j).f0, .int .i64 (F j).f1, .int .i64 (F j).f2], rfl, ⟨[_], [_, _], rfl, rfl, [_], [_], rfl, rfl, rfl⟩, fun i u hi => hF j (by omega) i u hi⟩
    · have hB : Try.prog.bytesOf 28 = 24 := by kernel_rfl
      have hmem := List.all_eq_true.1 hw _ (DataW.weights_mem_each ht hd ((((List.range len).map D).length + ((List.range (m - len)).map fun j => D (len + j)).length) * Try.prog.bytesOf 28) (by
        rw [hy]; simp [DataW.weights, DataW.weightsEach, Try.underlying26, Try.underlying24]))
      have : reachBytes = 140737488351232 := by kernel_rfl
      rw [hB] at hmem
      simp at hmem
      simp
      omega
end
set_option maxRecDepth 100000 in
theorem lifted (os : Os) (started : os.Started) (H : Type) (enc : TypeId × Value → H) :
    ReturnsInHanded {} Try.checked os 3 .any (Rows.fnSnailsHiddenOfAllSpec.pre6 enc Try.prog Try.f3 Rows.fnSnailsHiddenOfAllRow.domain false) (Rows.fnSnailsHiddenOfAllSpec.post enc Try.prog Try.f3 false true false false) := by
  refine returnsInHanded_of_change_sized (C := Try.checked) own started (by kernel_rfl) Try.func3
    (ChangeSpec.witness6 (enc := enc) (C := Try.checked) false ⟨#[], #[.agg #[.int .i64 0, .int .i64 0], .int .i64 0, .int .i64 0, .agg #[.slice none 0 0], .agg #[.slice none 0 0], .agg #[.int .i64 0, .int .i64 0, .int .i64 0], .agg #[.slice none 0 0], .int .i64 0, .agg #[.int .i64 0, .int .i64 0, .int .i64 0], .agg #[.int .i64 0, .int .i64 0], .agg #[.int .i64 0, .int .i64 0, .int .i64 0]], []⟩ 8 (by kernel_rfl) (by kernel_rfl) (by kernel_rfl) (by kernel_rfl)) ?_
  intro W base args ds gs before hval0 hW hcnd hsz0 _
  have hsz : (DataW.weightsEach Try.prog (Try.f3.params.toList ++ Rows.fnSnailsHiddenOfAllSpec.plain.varTypes Try.prog) (ds ++ gs)).all (· ≤ reachBytes) = true := hsz0
  have hval : ∀ (j : Nat) t v, Try.f3.params[j]? = some t → args[j]? = some v → Value.okWide Try.prog W .any base t v := hval0
  have hW' := hW
  obtain ⟨p, q, hA0, hV, rfl, hfz, hnd⟩ := hW
  have hA : DataW.TrodAll enc Try.prog W 0 (fun _ => true) true Try.f3.params.toList args.toList ds p := hA0
  rw [Try.params3] at hA hval hsz
  obtain ⟨v0, vs0, d0, ds0, p0, q0, hargs, rfl, rfl, h0, r0⟩ := trodAll_cons hA
  obtain ⟨v1, vs1, d1, ds1, p1, q1, rfl, rfl, rfl, h1, r1⟩ := trodAll_cons r0
  obtain ⟨v2, vs2, d2, ds2, p2, q2, rfl, rfl, rfl, h2, r2⟩ := trodAll_cons r1
  obtain ⟨v3, vs3, d3, ds3, p3, q3, rfl, rfl, rfl, h3, r3⟩ := trodAll_cons r2
  obtain ⟨v4, vs4, d4, ds4, p4, q4, rfl, rfl, rfl, h4, r4⟩ := trodAll_cons r3
  obtain ⟨v5, vs5, d5, ds5, p5, q5, rfl, rfl, rfl, h5, r5⟩ := trodAll_cons r4
  obtain ⟨v6, vs6, d6, ds6, p6, q6, rfl, rfl, rfl, h6, r6⟩ := trodAll_cons r5
  obtain ⟨v7, vs7, d7, ds7, p7, q7, rfl, rfl, rfl, h7, r7⟩ := trodAll_cons r6
  obtain ⟨v8, vs8, d8, ds8, p8, q8, rfl, rfl, rfl, h8, r8⟩ := trodAll_cons r7
  obtain ⟨v9, vs9, d9, ds9, p9, q9, rfl, rfl, rfl, h9, r9⟩ := trodAll_cons r8
  obtain ⟨v10, vs10, d10, ds10, p10, q10, rfl, rfl, rfl, h10, r10⟩ := trodAll_cons r9
  obtain ⟨rfl, rfl, rfl⟩ := trodAll_nil r10
  obtain rfl : args = #[v0, v1, v2, v3, v4, v5, v6, v7, v8, v9, v10] := by cases args; simp_all
  obtain ⟨rfl, rfl⟩ := trodVars_none hV
  have lt0 : ∀ x ∈ p0, x.block < W.heap.size := by obtain ⟨m, hm⟩ := h0; exact DataW.trod_lt m _ _ _ hm
  have k0 := h0
  obtain ⟨a0, b0, rfl⟩ := snail_form (hval 0 23 v0 rfl rfl) h0
  have lt1 : ∀ x ∈ p1, x.block < W.heap.size := by obtain ⟨m, hm⟩ := h1; exact DataW.trod_lt m _ _ _ hm
  have k1 := h1
  obtain ⟨a1, rfl, _, _, _⟩ := open_int Try.underlying3 (hval 1 3 v1 rfl rfl) h1
  have lt2 : ∀ x ∈ p2, x.block < W.heap.size := by obtain ⟨m, hm⟩ := h2; exact DataW.trod_lt m _ _ _ hm
  have k2 := h2
  obtain ⟨a2, rfl, _, _, _⟩ := open_int Try.underlying3 (hval 2 3 v2 rfl rfl) h2
  have lt3 : ∀ x ∈ p3, x.block < W.heap.size := by obtain ⟨m, hm⟩ := h3; exact DataW.trod_lt m _ _ _ hm
  have k3 := h3
  obtain ⟨A3, c3, l3, rfl, hr3, hc3, hs3⟩ := puzzle_form (hval 3 26 v3 rfl rfl) h3
  have lt4 : ∀ x ∈ p4, x.block < W.heap.size := by obtain ⟨m, hm⟩ := h4; exact DataW.trod_lt m _ _ _ hm
  have k4 := h4
  obtain ⟨A4, c4, l4, rfl, hr4, hc4, hs4⟩ := puzzle_form (hval 4 26 v4 rfl rfl) h4
  have lt5 : ∀ x ∈ p5, x.block < W.heap.size := by obtain ⟨m, hm⟩ := h5; exact DataW.trod_lt m _ _ _ hm
  have k5 := h5
  obtain ⟨a5, b5, c5, rfl⟩ := clue_form (hval 5 28 v5 rfl rfl) h5
  have lt6 : ∀ x ∈ p6, x.block < W.heap.size := by obtain ⟨m, hm⟩ := h6; exact DataW.trod_lt m _ _ _ hm
  have k6 := h6
  obtain ⟨A6, c6, l6, rfl, hr6, hc6, hs6⟩ := puzzle_form (hval 6 26 v6 rfl rfl) h6
  have lt7 : ∀ x ∈ p7, x.block < W.heap.size := by obtain ⟨m, hm⟩ := h7; exact DataW.trod_lt m _ _ _ hm
  have k7 := h7
  obtain ⟨a7, rfl, _, _, _⟩ := open_int Try.underlying3 (hval 7 3 v7 rfl rfl) h7
  have lt8 : ∀ x ∈ p8, x.block < W.heap.size := by obtain ⟨m, hm⟩ := h8; exact DataW.trod_lt m _ _ _ hm
  have k8 := h8
  obtain ⟨a8, b8, c8, rfl⟩ := clue_form (hval 8 28 v8 rfl rfl) h8
  have lt9 : ∀ x ∈ p9, x.block < W.heap.size := by obtain ⟨m, hm⟩ := h9; exact DataW.trod_lt m _ _ _ hm
  have k9 := h9
  obtain ⟨a9, b9, rfl⟩ := snail_form (hval 9 23 v9 rfl rfl) h9
  have lt10 : ∀ x ∈ p10, x.block < W.heap.size := by obtain ⟨m, hm⟩ := h10; exact DataW.trod_lt m _ _ _ hm
  have k10 := h10
  obtain ⟨a10, b10, c10, rfl⟩ := clue_form (hval 10 28 v10 rfl rfl) h10
  have y4 := hs4 hsz (j := 4) rfl rfl
  clear hA0 hval0 hsz0 hsz
  obtain ⟨k, hk⟩ := PureA.law_ev (q := l3) (r := l4) (t := l6) (by omega) a0 b0 a1 a2 a7 a5 b5 c5 a8 b8 c8 a9 b9 a10 b10 c10
  refine (laws_FnSnailsHiddenOfAll.calls k a0 b0 a1 a2 A3 c3 l3 A4 c4 l4 a5 b5 c5 A6 c6 l6 a7 a8 b8 c8 a9 b9 a10 b10 c10 true W hr3 hc3 hr4 hc4 hr6 hc6 hk).mono fun e W' ⟨he, bel⟩ => ?_
  subst he
  exact ⟨_, rfl, _, _, _, [], _, [], hW', trodAll_mk1 (shut_bool Try.underlying4 _), (trodAll_cons_mk (Below.trod laidOut (by kernel_rfl) (of_decide_eq_true (by kernel_rfl)) k0 bel lt0) (trodAll_cons_mk (Below.trod laidOut (by kernel_rfl) (of_decide_eq_true (by kernel_rfl)) k1 bel lt1) (trodAll_cons_mk (Below.trod laidOut (by kernel_rfl) (of_decide_eq_true (by kernel_rfl)) k2 bel lt2) (trodAll_cons_mk (Below.trod laidOut (by kernel_rfl) (of_decide_eq_true (by kernel_rfl)) k3 bel lt3) (trodAll_cons_mk (Below.trod laidOut (by kernel_rfl) (of_decide_eq_true (by kernel_rfl)) k4 bel lt4) (trodAll_cons_mk (Below.trod laidOut (by kernel_rfl) (of_decide_eq_true (by kernel_rfl)) k5 bel lt5) (trodAll_cons_mk (Below.trod laidOut (by kernel_rfl) (of_decide_eq_true (by kernel_rfl)) k6 bel lt6) (trodAll_cons_mk (Below.trod laidOut (by kernel_rfl) (of_decide_eq_true (by kernel_rfl)) k7 bel lt7) (trodAll_cons_mk (Below.trod laidOut (by kernel_rfl) (of_decide_eq_true (by kernel_rfl)) k8 bel lt8) (trodAll_cons_mk (Below.trod laidOut (by kernel_rfl) (of_decide_eq_true (by kernel_rfl)) k9 bel lt9) (trodAll_cons_mk (Below.trod laidOut (by kernel_rfl) (of_decide_eq_true (by kernel_rfl)) k10 bel lt10) trodAll_mk0))))))))))), rfl, bel.frame _, fun h => by cases h⟩
theorem over : Rows.fnSnailsHiddenOfAllRow.holds Try.pinned (OpenSpec.ofChange Rows.fnSnailsHiddenOfAllSpec) :=
  OpenClaim.holds_of_wide 3 Try.f3 rfl rfl rfl rfl rfl rfl rfl ⟨rfl, rfl, rfl, rfl, rfl⟩ rfl rfl rfl rfl rfl (by kernel_rfl) Try.func3 (by kernel_rfl)
    (of_decide_eq_true (by kernel_rfl)) (by unfold Func.isWrapper; first | (rw [if_pos (by decide +kernel)]; kernel_rfl) | (rw [if_neg (by decide +kernel)]; exact ⟨rfl, rfl⟩))
    (fun os started H enc _ => lifted os started H enc)
theorem proved : Rows.FnSnailsHiddenOfAllSaid := over
#print axioms proved
end Go.Proofs.Ytlpjooijkeadbaa.fnSnailsHiddenOfAll
namespace Go.Proofs.Ytlpjooijkeadbaa
/-- The row, under a short name, for the claim. -/
theorem fnSnailsHiddenOfAll_holds : Rows.FnSnailsHiddenOfAllSaid := fnSnailsHiddenOfAll.proved
end Go.Proofs.Ytlpjooijkeadbaa
