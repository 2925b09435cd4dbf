-- Written by a program of our own (wip/tools/xprint.py) for this claim; Lean checks it.
import Derived.Test.YtlpjooijkeadbaaPHx0
import Derived.Test.YtlpjooijkeadbaaPHx4
namespace Go.Proofs.Ytlpjooijkeadbaa.PH
open Go.RowKit Go.Proofs.YtlpjooijkeadbaaK Go.Proofs.YtlpjooijkeadbaaW.PrintWords Go.Proofs.YtlpjooijkeadbaaW.PrintLast Go.Proofs.YtlpjooijkeadbaaW.PrintMore
attribute [local go_sem] max2_int min2_int max_two min_two max_three min_three max_four min_four   -- for this text's walks alone
set_option linter.unusedVariables false
set_option linter.unusedSimpArgs false

/-! ### laws_big: function 25 -/
def laws_big.f (l0 : List Int) (l1 : List Int) : Option (Bool) := if (l0.length : Int) > 1048576 then (some true) else (some (decide ((l1.length : Int) > (wrap64 (1048576 - (l0.length : Int))))))
set_option maxHeartbeats 8000000 in
set_option maxRecDepth 100000 in
theorem laws_big.calls (A0 : Option Addr) (c0 : Nat) (l0 : List Int) (A1 : Option Addr) (c1 : Nat) (l1 : List Int) (r : Bool) (w : World) (hr0 : Kd.C (Kd.int .u8) w A0 l0.length l0) (hc0 : l0.length ≤ c0) (hr1 : Kd.C (Kd.int .u8) w A1 l1.length l1) (hc1 : l1.length ≤ c1) (h : laws_big.f l0 l1 = some r) :
    Calls Try.prog 25 #[.slice A0 l0.length c0, .slice A1 l1.length c1] w fun e w' => e = .returned (.bool r) ∧ Drawn0 w w' := by
 have HR0 := Aside0.mk hr0
 have HC0 := Aside0.mk hc0
 clear hr0 hc0
 have HR1 := Aside0.mk hr1
 have HC1 := Aside0.mk hc1
 clear hr1 hc1
 have H : (if (l0.length : Int) > 1048576 then (some true) else (some (decide ((l1.length : Int) > (wrap64 (1048576 - (l0.length : Int))))))) = some r := h
 clear h
 replace H := iteC H; rcases H with ⟨c3, H⟩ | ⟨c3, H⟩
 ·
  have c3b0 : decide (1048576 < (l0.length : Int)) = true := decide_eq_true c3
  have c3b1 : decide (1048576 < l0.length) = true := decide_eq_true (by omega)
  clear c3
  obtain rfl := Option.some.inj H
  go_enter Try.func25, Try.ntmps25
  go_wp2
  go_ret
  exact ⟨by first | rfl | (simp; done) | (simp [*]; done), by repeat (first | exact Drawn0.refl _ | apply Drawn0.step)⟩
 have c3b0 : decide (1048576 < (l0.length : Int)) = false := decide_eq_false c3
 have c3b1 : decide (1048576 < l0.length) = false := decide_eq_false (by omega)
 clear c3
 obtain rfl := Option.some.inj H
 go_enter Try.func25, Try.ntmps25
 go_wp2
 go_ret
 exact ⟨by first | rfl | (simp; done) | (simp [*]; done), by repeat (first | exact Drawn0.refl _ | apply Drawn0.step)⟩

/-- A state of type 81 at block g of W; what its slices lead to came in by w0. -/
def IsS81 (w0 W : World) (g : Nat) (f0 : List Int) (f1 : Int) (f2 : Int) : Prop := ∃ A0 c0, W.heap[g]? = some (.cells #[.slice A0 f0.length c0, .int .i64 f1, .int .u64 f2] 81 (0, 0)) ∧ w0.heap.size ≤ g ∧ Kd.C (Kd.int .u8) w0 A0 f0.length f0
theorem IsS81.grown {w0 W : World} {g : Nat} {f0 : List Int} {f1 : Int} {f2 : Int} {W1 : World} {row : Option Nat} (h : IsS81 w0 W g f0 f1 f2) (hw : W.grownBy W1 row) (hne : some g ≠ row) : IsS81 w0 W1 g f0 f1 f2 := by
  obtain ⟨A0, c0, hb, hg, hr0⟩ := h
  exact ⟨A0, c0, blk_grown hb hw hne, hg, hr0⟩
theorem IsS81.below {w0 W : World} {g : Nat} {f0 : List Int} {f1 : Int} {f2 : Int} {W1 : World} (h : IsS81 w0 W g f0 f1 f2) (hw : Below W.heap.size W W1) : IsS81 w0 W1 g f0 f1 f2 := h.grown (grown_of_below hw none) (by simp)
theorem IsS81.alloc {w0 W : World} {g : Nat} {f0 : List Int} {f1 : Int} {f2 : Int} (h : IsS81 w0 W g f0 f1 f2) (o : Obj) : IsS81 w0 (W.alloc o) g f0 f1 f2 := h.below (below_alloc (Below.refl _ _) o)
theorem IsS81.drewN {w0 W : World} {g : Nat} {f0 : List Int} {f1 : Int} {f2 : Int} (h : IsS81 w0 W g f0 f1 f2) (m : Nat) : IsS81 w0 (W.drewN m) g f0 f1 f2 := h
theorem IsS81.drew {w0 W : World} {g : Nat} {f0 : List Int} {f1 : Int} {f2 : Int} (h : IsS81 w0 W g f0 f1 f2) : IsS81 w0 W.drew g f0 f1 f2 := h
theorem IsS81.apart {w0 W : World} {g : Nat} {f0 : List Int} {f1 : Int} {f2 : Int} {α : Type} {d : Kd α} {e : Nat} {base : Nat} {ok : Nat → Prop} {v : Value} {xs : List α} (h : IsS81 w0 W g f0 f1 f2) (ho : d.R e W base ok v xs) (ht : ∀ q, q ∈ e :: d.E → q ≠ 81) : d.R e W base (fun k => ok k ∧ k ≠ g) v xs := by
  obtain ⟨A0, c0, hb, hg, hr0⟩ := h
  exact Kd.R_types ho hb ht
theorem IsS81.own_ne {w0 W : World} {g : Nat} {f0 : List Int} {f1 : Int} {f2 : Int} {α : Type} {d : Kd α} {e : Nat} {base : Nat} {ok : Nat → Prop} {v : Value} {xs : List α} (h : IsS81 w0 W g f0 f1 f2) (ho : d.R e W base ok v xs) (ht : e ≠ 81) : some g ≠ v.ownBlock := by
  obtain ⟨A0, c0, hb, hg, hr0⟩ := h
  exact Kd.R_ne ho hb ht
theorem IsS81.lt {w0 W : World} {g : Nat} {f0 : List Int} {f1 : Int} {f2 : Int} (h : IsS81 w0 W g f0 f1 f2) : g < W.heap.size := by
  obtain ⟨A0, c0, hb, hg, hr0⟩ := h
  exact blk_lt hb
theorem IsS81.ge {w0 W : World} {g : Nat} {f0 : List Int} {f1 : Int} {f2 : Int} (h : IsS81 w0 W g f0 f1 f2) : w0.heap.size ≤ g := by
  obtain ⟨A0, c0, hb, hg, hr0⟩ := h
  exact hg
theorem IsS81.far {w0 W : World} {g : Nat} {f0 : List Int} {f1 : Int} {f2 : Int} {p : Addr} (h : IsS81 w0 W g f0 f1 f2) (hne : g ≠ p.block) (u : Value) : IsS81 w0 (W.setCell p u) g f0 f1 f2 := by
  obtain ⟨A0, c0, hb, hg, hr0⟩ := h
  exact ⟨A0, c0, blk_far hb hne u, hg, hr0⟩
theorem cellS81_0 {W : World} {g : Nat} {A0 : Option Addr} {c0 : Nat} {f0 : List Int} {f1 : Int} {f2 : Int} (h : W.heap[g]? = some (.cells #[.slice A0 f0.length c0, .int .i64 f1, .int .u64 f2] 81 (0, 0))) : W.cell? ⟨g, 0, none⟩ = some (.slice A0 f0.length c0) := (blk_cell h 0).trans rfl
theorem cellS81_1 {W : World} {g : Nat} {A0 : Option Addr} {c0 : Nat} {f0 : List Int} {f1 : Int} {f2 : Int} (h : W.heap[g]? = some (.cells #[.slice A0 f0.length c0, .int .i64 f1, .int .u64 f2] 81 (0, 0))) : W.cell? ⟨g, 1, none⟩ = some (.int .i64 f1) := (blk_cell h 1).trans rfl
theorem IsS81.set_1 {w0 W : World} {g : Nat} {f0 : List Int} {f1 : Int} {f2 : Int} (h : IsS81 w0 W g f0 f1 f2) (x : Int) : IsS81 w0 (W.setCell ⟨g, 1, none⟩ (.int .i64 x)) g f0 x f2 := by
  obtain ⟨A0, c0, hb, hg, hr0⟩ := h
  exact ⟨A0, c0, by simpa using blk_set hb 1 (.int .i64 x), hg, hr0⟩
theorem cellS81_2 {W : World} {g : Nat} {A0 : Option Addr} {c0 : Nat} {f0 : List Int} {f1 : Int} {f2 : Int} (h : W.heap[g]? = some (.cells #[.slice A0 f0.length c0, .int .i64 f1, .int .u64 f2] 81 (0, 0))) : W.cell? ⟨g, 2, none⟩ = some (.int .u64 f2) := (blk_cell h 2).trans rfl
theorem IsS81.set_2 {w0 W : World} {g : Nat} {f0 : List Int} {f1 : Int} {f2 : Int} (h : IsS81 w0 W g f0 f1 f2) (x : Int) : IsS81 w0 (W.setCell ⟨g, 2, none⟩ (.int .u64 x)) g f0 f1 x := by
  obtain ⟨A0, c0, hb, hg, hr0⟩ := h
  exact ⟨A0, c0, by simpa using blk_set hb 2 (.int .u64 x), hg, hr0⟩
theorem IsS81.w {w0 W W' : World} {g : Nat} {f0 : List Int} {f1 : Int} {f2 : Int} {f0' : List Int} {f1' : Int} {f2' : Int} (h : Aside0 (IsS81 w0 W g f0 f1 f2)) (k : IsS81 w0 W g f0 f1 f2 → IsS81 w0 W' g f0' f1' f2' := by (intro h_; repeat (first | (with_reducible first | exact h_ | apply IsS81.alloc | apply IsS81.drewN | apply IsS81.drew | apply IsS81.set_1 | apply IsS81.set_2 | refine IsS81.far ?_ (Aside0.out (by assumption)) _) | exact h_))) : IsS81 w0 W' g f0' f1' f2' := k h.out
theorem IsS81.kb {w0 W W' w1 : World} {g : Nat} {f0 : List Int} {f1 : Int} {f2 : Int} {f0' : List Int} {f1' : Int} {f2' : Int} (h : Aside0 (IsS81 w0 W g f0 f1 f2)) (hb : Below W'.heap.size W' w1) (k : IsS81 w0 W g f0 f1 f2 → IsS81 w0 W' g f0' f1' f2' := by (intro h_; repeat (first | (with_reducible first | exact h_ | apply IsS81.alloc | apply IsS81.drewN | apply IsS81.drew | apply IsS81.set_1 | apply IsS81.set_2 | refine IsS81.far ?_ (Aside0.out (by assumption)) _) | exact h_))) : Aside0 (IsS81 w0 w1 g f0' f1' f2') := ⟨IsS81.below (k h.out) hb⟩
theorem IsS81.nl {w0 W W' : World} {g g' : Nat} {f0 : List Int} {f1 : Int} {f2 : Int} (h : Aside0 (IsS81 w0 W g f0 f1 f2)) (hg : g' = W'.heap.size) (k : IsS81 w0 W g f0 f1 f2 → IsS81 w0 W' g f0 f1 f2 := by (intro h_; repeat (first | (with_reducible first | exact h_ | apply IsS81.alloc | apply IsS81.drewN | apply IsS81.drew | apply IsS81.set_1 | apply IsS81.set_2 | refine IsS81.far ?_ (Aside0.out (by assumption)) _) | exact h_))) : Aside0 (g ≠ g') := ⟨by rw [hg]; exact Nat.ne_of_lt (IsS81.lt (k h.out))⟩
theorem IsS81.bw {w0 W W1 W' : World} {g : Nat} {B : Nat} {f0 : List Int} {f1 : Int} {f2 : Int} (h : Aside0 (Below B w0 W)) (hI : Aside0 (IsS81 w0 W1 g f0 f1 f2)) (k : Below B w0 W → w0.heap.size ≤ g → Below B w0 W' := by (intro h_ g_; repeat (first | (with_reducible first | exact h_ | apply below_alloc | apply pw_below_drewN | apply below_drew1 | refine below_set ?_ g_ | refine below_set ?_ (Aside0.out (by assumption))) | exact h_))) : Below B w0 W' := k h.out (IsS81.ge hI.out)
theorem IsS81.kbw {w0 W W1 W' w1 : World} {g : Nat} {B : Nat} {f0 : List Int} {f1 : Int} {f2 : Int} (h : Aside0 (Below B w0 W)) (hI : Aside0 (IsS81 w0 W1 g f0 f1 f2)) (hb : Below W'.heap.size W' w1) (hB : B = w0.heap.size := by rfl) (k : Below B w0 W → w0.heap.size ≤ g → Below B w0 W' := by (intro h_ g_; repeat (first | (with_reducible first | exact h_ | apply below_alloc | apply pw_below_drewN | apply below_drew1 | refine below_set ?_ g_ | refine below_set ?_ (Aside0.out (by assumption))) | exact h_))) : Aside0 (Below B w0 w1) := by subst hB; exact ⟨below_step (k h.out (IsS81.ge hI.out)) hb⟩
/-! ### spec_l1Cur_next: function 70 -/
def spec_l1Cur_next.f (s0_0 : List Int) (s0_1 : Int) (s0_2 : Int) : Option (Int × Int × Int) := if s0_1 < (s0_0.length : Int) then (if 0 ≤ s0_1 then (if (wrap64 (s0_1 + 1)) ≤ (s0_0.length : Int) then (some (wrap64 (rd s0_0 s0_1), wrap64 (s0_1 + 1), IntKind.u64.wrap ((IntKind.u64.wrap ((IntKind.u64.wrap (s0_2 * 6364136223846793005)) + (IntKind.u64.wrap (wrap64 (rd s0_0 s0_1))))) + 1442695040888963407))) else (some (wrap64 (Go.bits .and .u64 ((IntKind.u64.wrap ((IntKind.u64.wrap ((IntKind.u64.wrap (s0_2 * 6364136223846793005)) + (IntKind.u64.wrap (wrap64 (rd s0_0 s0_1))))) + 1442695040888963407)) / 1099511627776) 255), wrap64 (s0_1 + 1), IntKind.u64.wrap ((IntKind.u64.wrap ((IntKind.u64.wrap (s0_2 * 6364136223846793005)) + (IntKind.u64.wrap (wrap64 (rd s0_0 s0_1))))) + 1442695040888963407)))) else (none)) else (if (wrap64 (s0_1 + 1)) ≤ (s0_0.length : Int) then (some (0, wrap64 (s0_1 + 1), IntKind.u64.wrap ((IntKind.u64.wrap ((IntKind.u64.wrap (s0_2 * 6364136223846793005)))) + 1442695040888963407))) else (some (wrap64 (Go.bits .and .u64 ((IntKind.u64.wrap ((IntKind.u64.wrap ((IntKind.u64.wrap (s0_2 * 6364136223846793005)))) + 1442695040888963407)) / 1099511627776) 255), wrap64 (s0_1 + 1), IntKind.u64.wrap ((IntKind.u64.wrap ((IntKind.u64.wrap (s0_2 * 6364136223846793005)))) + 1442695040888963407))))
set_option maxHeartbeats 8000000 in
set_option maxRecDepth 100000 in
theorem spec_l1Cur_next.calls (g : Nat) (s0_0 : List Int) (s0_1 : Int) (s0_2 : Int) (r1 : Int) (r2 : Int) (r3 : Int) (w0 w : World) (hI : IsS81 w0 w g s0_0 s0_1 s0_2) (hB : Below w0.heap.size w0 w) (h : spec_l1Cur_next.f s0_0 s0_1 s0_2 = some (r1, r2, r3)) :
    Calls Try.prog 70 #[.pointer (some ⟨g, 0, none⟩)] w fun e w' => e = .returned (.int .i64 r1) ∧ IsS81 w0 w' g s0_0 r2 r3 ∧ Below w0.heap.size w0 w' ∧ KeepBut w w' g none := by
 have HI0 := Aside0.mk hI
 have HK := Aside0.mk (KeepBut.refl w g none)
 have HL := Aside0.mk hB.size
 clear hI
 have HW0 := Aside0.mk hB.size
 have HB := Aside0.mk hB
 clear hB
 have H : (if s0_1 < (s0_0.length : Int) then (if 0 ≤ s0_1 then (if (wrap64 (s0_1 + 1)) ≤ (s0_0.length : Int) then (some (wrap64 (rd s0_0 s0_1), wrap64 (s0_1 + 1), IntKind.u64.wrap ((IntKind.u64.wrap ((IntKind.u64.wrap (s0_2 * 6364136223846793005)) + (IntKind.u64.wrap (wrap64 (rd s0_0 s0_1))))) + 1442695040888963407))) else (some (wrap64 (Go.bits .and .u64 ((IntKind.u64.wrap ((IntKind.u64.wrap ((IntKind.u64.wrap (s0_2 * 6364136223846793005)) + (IntKind.u64.wrap (wrap64 (rd s0_0 s0_1))))) + 1442695040888963407)) / 1099511627776) 255), wrap64 (s0_1 + 1), IntKind.u64.wrap ((IntKind.u64.wrap ((IntKind.u64.wrap (s0_2 * 6364136223846793005)) + (IntKind.u64.wrap (wrap64 (rd s0_0 s0_1))))) + 1442695040888963407)))) else (none)) else (if (wrap64 (s0_1 + 1)) ≤ (s0_0.length : Int) then (some (0, wrap64 (s0_1 + 1), IntKind.u64.wrap ((IntKind.u64.wrap ((IntKind.u64.wrap (s0_2 * 6364136223846793005)))) + 1442695040888963407))) else (some (wrap64 (Go.bits .and .u64 ((IntKind.u64.wrap ((IntKind.u64.wrap ((IntKind.u64.wrap (s0_2 * 6364136223846793005)))) + 1442695040888963407)) / 1099511627776) 255), wrap64 (s0_1 + 1), IntKind.u64.wrap ((IntKind.u64.wrap ((IntKind.u64.wrap (s0_2 * 6364136223846793005)))) + 1442695040888963407))))) = some (r1, r2, r3) := h
 clear h
 replace H := iteC H; rcases H with ⟨c2, H⟩ | ⟨c2, H⟩
 rotate_left
 ·
  have c2b0 : decide (s0_1 < (s0_0.length : Int)) = false := decide_eq_false c2
  clear c2
  replace H := iteC H; rcases H with ⟨c7, H⟩ | ⟨c7, H⟩
  ·
   have c7b0 : decide ((wrap64 (s0_1 + 1)) ≤ (s0_0.length : Int)) = true := decide_eq_true c7
   clear c7
   simp only [Option.some.injEq, Prod.mk.injEq] at H
   obtain ⟨rfl, rfl, rfl⟩ := H
   obtain ⟨ASz8_0, cSz8_0, HGz8, hgz8, HSz8_0⟩ := HI0.out
   have hcz8_0 := cellS81_0 HGz8
   have hcz8_1 := cellS81_1 HGz8
   have hcz8_2 := cellS81_2 HGz8
   have hfz8_1 := blk_frozen HGz8 1
   have hfz8_2 := blk_frozen HGz8 2
   clear HGz8 hgz8
   go_enter Try.func70, Try.ntmps70
   go_wp2
   repeat (go_quiet (fail); try go_wp2)
   go_ret
   exact ⟨eqR, (IsS81.w HI0), (IsS81.bw HB HI0), (kk HK)⟩
  have c7b0 : decide ((wrap64 (s0_1 + 1)) ≤ (s0_0.length : Int)) = false := decide_eq_false c7
  clear c7
  simp only [Option.some.injEq, Prod.mk.injEq] at H
  obtain ⟨rfl, rfl, rfl⟩ := H
  obtain ⟨ASz9_0, cSz9_0, HGz9, hgz9, HSz9_0⟩ := HI0.out
  have hcz9_0 := cellS81_0 HGz9
  have hcz9_1 := cellS81_1 HGz9
  have hcz9_2 := cellS81_2 HGz9
  have hfz9_1 := blk_frozen HGz9 1
  have hfz9_2 := blk_frozen HGz9 2
  clear HGz9 hgz9
  go_enter Try.func70, Try.ntmps70
  go_wp2
  repeat (go_quiet (fail); try go_wp2)
  go_ret
  exact ⟨eqR, (IsS81.w HI0), (IsS81.bw HB HI0), (kk HK)⟩
 have c2b0 : decide (s0_1 < (s0_0.length : Int)) = true := decide_eq_true c2
 clear c2
 replace H := iteS H; obtain ⟨c3, H⟩ := H
 have c3b0 : decide (0 ≤ s0_1) = true := decide_eq_true c3
 clear c3
 replace H := iteC H; rcases H with ⟨c4, H⟩ | ⟨c4, H⟩
 ·
  have c4b0 : decide ((wrap64 (s0_1 + 1)) ≤ (s0_0.length : Int)) = true := decide_eq_true c4
  clear c4
  simp only [Option.some.injEq, Prod.mk.injEq] at H
  obtain ⟨rfl, rfl, rfl⟩ := H
  obtain ⟨ASz5_0, cSz5_0, HGz5, hgz5, HSz5_0⟩ := HI0.out
  have hcz5_0 := cellS81_0 HGz5
  have hcz5_1 := cellS81_1 HGz5
  have hcz5_2 := cellS81_2 HGz5
  have hfz5_1 := blk_frozen HGz5 1
  have hfz5_2 := blk_frozen HGz5 2
  clear HGz5 hgz5
  have p467 : 0 ≤ (s0_1 : Int) := of_decide_eq_true (by first | (with_reducible assumption) | assumption)
  have q467 : s0_1 < (s0_0.length : Int) := of_decide_eq_true (by first | (with_reducible assumption) | assumption)
  obtain ⟨ad467, e467, hx467_0⟩ := Kd.at_int HSz5_0 s0_1 p467 q467
  cases e467
  replace hx467_0 := pw_cell_below HB.out hx467_0
  replace p467 := eq_true p467
  replace q467 := eq_true q467
  go_enter Try.func70, Try.ntmps70
  go_wp2
  repeat (go_quiet (fail); try go_wp2)
  go_ret
  exact ⟨eqR, (IsS81.w HI0), (IsS81.bw HB HI0), (kk HK)⟩
 have c4b0 : decide ((wrap64 (s0_1 + 1)) ≤ (s0_0.length : Int)) = false := decide_eq_false c4
 clear c4
 simp only [Option.some.injEq, Prod.mk.injEq] at H
 obtain ⟨rfl, rfl, rfl⟩ := H
 obtain ⟨ASz6_0, cSz6_0, HGz6, hgz6, HSz6_0⟩ := HI0.out
 have hcz6_0 := cellS81_0 HGz6
 have hcz6_1 := cellS81_1 HGz6
 have hcz6_2 := cellS81_2 HGz6
 have hfz6_1 := blk_frozen HGz6 1
 have hfz6_2 := blk_frozen HGz6 2
 clear HGz6 hgz6
 have p467 : 0 ≤ (s0_1 : Int) := of_decide_eq_true (by first | (with_reducible assumption) | assumption)
 have q467 : s0_1 < (s0_0.length : Int) := of_decide_eq_true (by first | (with_reducible assumption) | assumption)
 obtain ⟨ad467, e467, hx467_0⟩ := Kd.at_int HSz6_0 s0_1 p467 q467
 cases e467
 replace hx467_0 := pw_cell_below HB.out hx467_0
 replace p467 := eq_true p467
 replace q467 := eq_true q467
 go_enter Try.func70, Try.ntmps70
 go_wp2
 repeat (go_quiet (fail); try go_wp2)
 go_ret
 exact ⟨eqR, (IsS81.w HI0), (IsS81.bw HB HI0), (kk HK)⟩

/-! ### spec_l1Cur_pick: function 58 -/
def spec_l1Cur_pick.f (s0_0 : List Int) (s0_1 : Int) (s0_2 : Int) (a1 : Int) : Option (Int × Int × Int) := if a1 ≤ 1 then (some (0, s0_1, s0_2)) else ((spec_l1Cur_next.f s0_0 s0_1 s0_2).bind fun bt468 => (if a1 > 200 then ((spec_l1Cur_next.f s0_0 bt468.2.1 bt468.2.2).bind fun bt471 => (if a1 = 0 then (none) else (some (Int.tmod (wrap64 ((wrap64 (bt468.1 * 256)) + bt471.1)) a1, bt471.2.1, bt471.2.2)))) else (if a1 = 0 then (none) else (some (Int.tmod bt468.1 a1, bt468.2.1, bt468.2.2)))))
set_option maxHeartbeats 8000000 in
set_option maxRecDepth 100000 in
theorem spec_l1Cur_pick.calls (g : Nat) (s0_0 : List Int) (s0_1 : Int) (s0_2 : Int) (a1 : Int) (r1 : Int) (r2 : Int) (r3 : Int) (w0 w : World) (hI : IsS81 w0 w g s0_0 s0_1 s0_2) (hB : Below w0.heap.size w0 w) (h : spec_l1Cur_pick.f s0_0 s0_1 s0_2 a1 = some (r1, r2, r3)) :
    Calls Try.prog 58 #[.pointer (some ⟨g, 0, none⟩), .int .i64 a1] w fun e w' => e = .returned (.int .i64 r1) ∧ IsS81 w0 w' g s0_0 r2 r3 ∧ Below w0.heap.size w0 w' ∧ KeepBut w w' g none := by
 have HI0 := Aside0.mk hI
 have HK := Aside0.mk (KeepBut.refl w g none)
 have HL := Aside0.mk hB.size
 clear hI
 have HW0 := Aside0.mk hB.size
 have HB := Aside0.mk hB
 clear hB
 have H : (if a1 ≤ 1 then (some (0, s0_1, s0_2)) else ((spec_l1Cur_next.f s0_0 s0_1 s0_2).bind fun bt468 => (if a1 > 200 then ((spec_l1Cur_next.f s0_0 bt468.2.1 bt468.2.2).bind fun bt471 => (if a1 = 0 then (none) else (some (Int.tmod (wrap64 ((wrap64 (bt468.1 * 256)) + bt471.1)) a1, bt471.2.1, bt471.2.2)))) else (if a1 = 0 then (none) else (some (Int.tmod bt468.1 a1, bt468.2.1, bt468.2.2)))))) = some (r1, r2, r3) := h
 clear h
 replace H := iteC H; rcases H with ⟨c3, H⟩ | ⟨c3, H⟩
 ·
  have c3b0 : decide (a1 ≤ 1) = true := decide_eq_true c3
  clear c3
  simp only [Option.some.injEq, Prod.mk.injEq] at H
  obtain ⟨rfl, rfl, rfl⟩ := H
  go_enter Try.func58, Try.ntmps58
  go_wp2
  go_ret
  exact ⟨eqR, (IsS81.w HI0), (IsS81.bw HB HI0), (kk HK)⟩
 have c3b0 : decide (a1 ≤ 1) = false := decide_eq_false c3
 clear c3
 replace H := bindS H; obtain ⟨⟨t468, t469, t470⟩, A4, H⟩ := H
 replace H := iteC H; rcases H with ⟨c5, H⟩ | ⟨c5, H⟩
 ·
  have c5b0 : decide (200 < a1) = true := decide_eq_true c5
  clear c5
  replace H := bindS H; obtain ⟨⟨t471, t472, t473⟩, A6, H⟩ := H
  replace H := iteC H; rcases H with ⟨c7, H⟩ | ⟨c7, H⟩
  · exact absurd H (by simp)
  have c7b0 : (a1 == 0) = false := beq_eq_false_iff_ne.mpr c7
  have c7b1 : (a1 != 0) = true := bne_iff_ne.mpr c7
  simp only [Option.some.injEq, Prod.mk.injEq] at H
  obtain ⟨rfl, rfl, rfl⟩ := H
  go_enter Try.func58, Try.ntmps58
  go_wp2_with (first | ((with_reducible refine gate_callee (f := 70) rfl ?_); refine goK (some 9) Try.func70 #[.pointer (some ⟨g, 0, none⟩)] ?_; (with_reducible refine (spec_l1Cur_next.calls g s0_0 s0_1 s0_2 t468 t469 t470 w0 _ ?side1 ?side2 A4.out).mono ?_); (case side1 => exact IsS81.w HI0); (case side2 => exact IsS81.bw HB HI0); rintro e w8 ⟨rfl, hi, hb, hk⟩; refine ⟨_, rfl, ?_⟩; replace HK := kkt HK hk; replace HB := Aside0.mk (hb); replace HI0 := Aside0.mk (hi); (try clear hb); (try clear hk); (try clear hi)) | ((with_reducible refine gate_callee (f := 70) rfl ?_); refine goK (some 15) Try.func70 #[.pointer (some ⟨g, 0, none⟩)] ?_; (with_reducible refine (spec_l1Cur_next.calls g s0_0 t469 t470 t471 t472 t473 w0 _ ?side1 ?side2 A6.out).mono ?_); (case side1 => exact IsS81.w HI0); (case side2 => exact IsS81.bw HB HI0); rintro e w9 ⟨rfl, hi, hb, hk⟩; refine ⟨_, rfl, ?_⟩; replace HK := kkt HK hk; replace HB := Aside0.mk (hb); replace HI0 := Aside0.mk (hi); (try clear hb); (try clear hk); (try clear hi)))
  go_ret
  exact ⟨eqR, (IsS81.w HI0), (IsS81.bw HB HI0), (kk HK)⟩
 have c5b0 : decide (200 < a1) = false := decide_eq_false c5
 clear c5
 replace H := iteC H; rcases H with ⟨c10, H⟩ | ⟨c10, H⟩
 · exact absurd H (by simp)
 have c10b0 : (a1 == 0) = false := beq_eq_false_iff_ne.mpr c10
 have c10b1 : (a1 != 0) = true := bne_iff_ne.mpr c10
 simp only [Option.some.injEq, Prod.mk.injEq] at H
 obtain ⟨rfl, rfl, rfl⟩ := H
 go_enter Try.func58, Try.ntmps58
 go_wp2_with (first | ((with_reducible refine gate_callee (f := 70) rfl ?_); refine goK (some 9) Try.func70 #[.pointer (some ⟨g, 0, none⟩)] ?_; (with_reducible refine (spec_l1Cur_next.calls g s0_0 s0_1 s0_2 t468 t469 t470 w0 _ ?side1 ?side2 A4.out).mono ?_); (case side1 => exact IsS81.w HI0); (case side2 => exact IsS81.bw HB HI0); rintro e w11 ⟨rfl, hi, hb, hk⟩; refine ⟨_, rfl, ?_⟩; replace HK := kkt HK hk; replace HB := Aside0.mk (hb); replace HI0 := Aside0.mk (hi); (try clear hb); (try clear hk); (try clear hi)))
 go_ret
 exact ⟨eqR, (IsS81.w HI0), (IsS81.bw HB HI0), (kk HK)⟩

/-! ### spec_l1Cur_one: function 54 -/
def spec_l1Cur_one.f (s0_0 : List Int) (s0_1 : Int) (s0_2 : Int) (a1 : Int) : Option (Bool × Int × Int) := (spec_l1Cur_pick.f s0_0 s0_1 s0_2 a1).bind fun bt474 => (some ((bt474.1 == 0), bt474.2.1, bt474.2.2))
set_option maxHeartbeats 8000000 in
set_option maxRecDepth 100000 in
theorem spec_l1Cur_one.calls (g : Nat) (s0_0 : List Int) (s0_1 : Int) (s0_2 : Int) (a1 : Int) (r1 : Bool) (r2 : Int) (r3 : Int) (w0 w : World) (hI : IsS81 w0 w g s0_0 s0_1 s0_2) (hB : Below w0.heap.size w0 w) (h : spec_l1Cur_one.f s0_0 s0_1 s0_2 a1 = some (r1, r2, r3)) :
    Calls Try.prog 54 #[.pointer (some ⟨g, 0, none⟩), .int .i64 a1] w fun e w' => e = .returned (.bool r1) ∧ IsS81 w0 w' g s0_0 r2 r3 ∧ Below w0.heap.size w0 w' ∧ KeepBut w w' g none := by
 have HI0 := Aside0.mk hI
 have HK := Aside0.mk (KeepBut.refl w g none)
 have HL := Aside0.mk hB.size
 clear hI
 have HW0 := Aside0.mk hB.size
 have HB := Aside0.mk hB
 clear hB
 have H : ((spec_l1Cur_pick.f s0_0 s0_1 s0_2 a1).bind fun bt474 => (some ((bt474.1 == 0), bt474.2.1, bt474.2.2))) = some (r1, r2, r3) := h
 clear h
 replace H := bindS H; obtain ⟨⟨t474, t475, t476⟩, A3, H⟩ := H
 simp only [Option.some.injEq, Prod.mk.injEq] at H
 obtain ⟨rfl, rfl, rfl⟩ := H
 go_enter Try.func54, Try.ntmps54
 go_wp2_with (first | ((with_reducible refine gate_callee (f := 58) rfl ?_); refine goK (some 7) Try.func58 #[.pointer (some ⟨g, 0, none⟩), .int .i64 a1] ?_; (with_reducible refine (spec_l1Cur_pick.calls g s0_0 s0_1 s0_2 a1 t474 t475 t476 w0 _ ?side1 ?side2 A3.out).mono ?_); (case side1 => exact IsS81.w HI0); (case side2 => exact IsS81.bw HB HI0); rintro e w4 ⟨rfl, hi, hb, hk⟩; refine ⟨_, rfl, ?_⟩; replace HK := kkt HK hk; replace HB := Aside0.mk (hb); replace HI0 := Aside0.mk (hi); (try clear hb); (try clear hk); (try clear hi)))
 go_ret
 exact ⟨eqR, (IsS81.w HI0), (IsS81.bw HB HI0), (kk HK)⟩

/-! ### spec_l1Cur_among: function 56 -/
def spec_l1Cur_among.f (s0_0 : List Int) (s0_1 : Int) (s0_2 : Int) (l1 : List Int) : Option (Int × Int × Int) := (spec_l1Cur_pick.f s0_0 s0_1 s0_2 (l1.length : Int)).bind fun bt477 => (if 0 ≤ bt477.1 then (if bt477.1 < (l1.length : Int) then (some (rd l1 bt477.1, bt477.2.1, bt477.2.2)) else (none)) else (none))
set_option maxHeartbeats 8000000 in
set_option maxRecDepth 100000 in
theorem spec_l1Cur_among.calls (g : Nat) (s0_0 : List Int) (s0_1 : Int) (s0_2 : Int) (A1 : Option Addr) (c1 : Nat) (l1 : List Int) (r1 : Int) (r2 : Int) (r3 : Int) (w0 w : World) (hI : IsS81 w0 w g s0_0 s0_1 s0_2) (hB : Below w0.heap.size w0 w) (hr1 : Kd.C (Kd.int .i64) w A1 l1.length l1) (hc1 : l1.length ≤ c1) (hf1 : ∀ ad, A1 = some ad → 0 < l1.length → ad.block ≠ g) (h : spec_l1Cur_among.f s0_0 s0_1 s0_2 l1 = some (r1, r2, r3)) :
    Calls Try.prog 56 #[.pointer (some ⟨g, 0, none⟩), .slice A1 l1.length c1] w fun e w' => e = .returned (.int .i64 r1) ∧ IsS81 w0 w' g s0_0 r2 r3 ∧ Below w0.heap.size w0 w' ∧ KeepBut w w' g none := by
 have HR1 := Aside0.mk hr1
 have HC1 := Aside0.mk hc1
 clear hr1 hc1
 have HI0 := Aside0.mk hI
 have HK := Aside0.mk (KeepBut.refl w g none)
 have HL := Aside0.mk hB.size
 clear hI
 have HW0 := Aside0.mk hB.size
 have HB := Aside0.mk hB
 clear hB
 have H : ((spec_l1Cur_pick.f s0_0 s0_1 s0_2 (l1.length : Int)).bind fun bt477 => (if 0 ≤ bt477.1 then (if bt477.1 < (l1.length : Int) then (some (rd l1 bt477.1, bt477.2.1, bt477.2.2)) else (none)) else (none))) = some (r1, r2, r3) := h
 clear h
 replace H := bindS H; obtain ⟨⟨t477, t478, t479⟩, A3, H⟩ := H
 replace H := iteS H; obtain ⟨c4, H⟩ := H
 have c4b0 : decide (0 ≤ t477) = true := decide_eq_true c4
 clear c4
 replace H := iteS H; obtain ⟨c5, H⟩ := H
 have c5b0 : decide (t477 < (l1.length : Int)) = true := decide_eq_true c5
 clear c5
 simp only [Option.some.injEq, Prod.mk.injEq] at H
 obtain ⟨rfl, rfl, rfl⟩ := H
 go_enter Try.func56, Try.ntmps56
 go_wp2_with (first | ((with_reducible refine gate_callee (f := 58) rfl ?_); refine goK (some 9) Try.func58 #[.pointer (some ⟨g, 0, none⟩), .int .i64 (l1.length : Int)] ?_; (with_reducible refine (spec_l1Cur_pick.calls g s0_0 s0_1 s0_2 (l1.length : Int) t477 t478 t479 w0 _ ?side1 ?side2 A3.out).mono ?_); (case side1 => exact IsS81.w HI0); (case side2 => exact IsS81.bw HB HI0); rintro e w6 ⟨rfl, hi, hb, hk⟩; refine ⟨_, rfl, ?_⟩; replace HK := kkt HK hk; replace HB := Aside0.mk (hb); replace HI0 := Aside0.mk (hi); (try clear hb); (try clear hk); (try clear hi); have p480 : 0 ≤ (t477 : Int) := of_decide_eq_true (by first | (with_reducible assumption) | assumption); have q480 : t477 < (l1.length : Int) := of_decide_eq_true (by first | (with_reducible assumption) | assumption); obtain ⟨ad480, e480, hx480_0⟩ := Kd.at_int HR1.out t477 p480 q480; cases e480; replace hx480_0 := keep_cell HK.out hx480_0 (by first | (rw [add_block]; exact hf1 _ rfl (by omega)) | exact hf1 _ rfl (by omega) | exact hf1 ad480 rfl (by omega)); replace p480 := eq_true p480; replace q480 := eq_true q480))
 go_ret
 exact ⟨eqR, (IsS81.w HI0), (IsS81.bw HB HI0), (kk HK)⟩

/-! ### spec_l1Cur_sureSnail: function 69 -/
def spec_l1Cur_sureSnail.f (s0_0 : List Int) (s0_1 : Int) (s0_2 : Int) : Option (Int × Int × Int × Int) := (spec_l1Cur_one.f s0_0 s0_1 s0_2 6).bind fun bt482 => (if bt482.1 = true then ((spec_l1Cur_among.f s0_0 bt482.2.1 bt482.2.2 (([1, 7, 1000] : List Int))).bind fun bt488 => ((spec_l1Cur_among.f s0_0 bt488.2.1 bt488.2.2 (([0, 1, 7, 999, 1000] : List Int))).bind fun bt494 => (some (bt488.1, bt494.1, bt494.2.1, bt494.2.2)))) else ((spec_l1Cur_pick.f s0_0 bt482.2.1 bt482.2.2 9).bind fun bt497 => ((spec_l1Cur_pick.f s0_0 bt497.2.1 bt497.2.2 (wrap64 ((wrap64 (1 + bt497.1)) + 1))).bind fun bt500 => (some (wrap64 (1 + bt497.1), bt500.1, bt500.2.1, bt500.2.2)))))
set_option maxHeartbeats 8000000 in
set_option maxRecDepth 100000 in
theorem spec_l1Cur_sureSnail.calls (g : Nat) (s0_0 : List Int) (s0_1 : Int) (s0_2 : Int) (r1 : Int) (r2 : Int) (r3 : Int) (r4 : Int) (w0 w : World) (hI : IsS81 w0 w g s0_0 s0_1 s0_2) (hB : Below w0.heap.size w0 w) (h : spec_l1Cur_sureSnail.f s0_0 s0_1 s0_2 = some (r1, r2, r3, r4)) :
    Calls Try.prog 69 #[.pointer (some ⟨g, 0, none⟩)] w fun e w' => e = .returned (.agg #[.int .i64 r1, .int .i64 r2]) ∧ IsS81 w0 w' g s0_0 r3 r4 ∧ Below w0.heap.size w0 w' ∧ KeepBut w w' g none := by
 have hu23 := Try.underlying23
 have HI0 := Aside0.mk hI
 have HK := Aside0.mk (KeepBut.refl w g none)
 have HL := Aside0.mk hB.size
 clear hI
 have HW0 := Aside0.mk hB.size
 have HB := Aside0.mk hB
 clear hB
 have H : ((spec_l1Cur_one.f s0_0 s0_1 s0_2 6).bind fun bt482 => (if bt482.1 = true then ((spec_l1Cur_among.f s0_0 bt482.2.1 bt482.2.2 (([1, 7, 1000] : List Int))).bind fun bt488 => ((spec_l1Cur_among.f s0_0 bt488.2.1 bt488.2.2 (([0, 1, 7, 999, 1000] : List Int))).bind fun bt494 => (some (bt488.1, bt494.1, bt494.2.1, bt494.2.2)))) else ((spec_l1Cur_pick.f s0_0 bt482.2.1 bt482.2.2 9).bind fun bt497 => ((spec_l1Cur_pick.f s0_0 bt497.2.1 bt497.2.2 (wrap64 ((wrap64 (1 + bt497.1)) + 1))).bind fun bt500 => (some (wrap64 (1 + bt497.1), bt500.1, bt500.2.1, bt500.2.2)))))) = some (r1, r2, r3, r4) := h
 clear h
 replace H := bindS H; obtain ⟨⟨t482, t483, t484⟩, A2, H⟩ := H
 replace H := iteB H; rcases H with ⟨rfl, H⟩ | ⟨rfl, H⟩
 rotate_left
 ·
  replace H := bindS H; obtain ⟨⟨t497, t498, t499⟩, A18, H⟩ := H
  replace H := bindS H; obtain ⟨⟨t500, t501, t502⟩, A19, H⟩ := H
  simp only [Option.some.injEq, Prod.mk.injEq] at H
  obtain ⟨rfl, rfl, rfl, rfl⟩ := H
  go_enter Try.func69, Try.ntmps69
  go_wp2_with (first | ((with_reducible refine gate_dst (N := 2) rfl ?_); refine boxP (N := 2) (cs := #[.int .i64 0, .int .i64 0]) (t := 23) (h := ?_); intro gb1 hg w20 hbox hb; replace HB := IsS81.kbw HB HI0 hb; have BK1 := Aside0.mk (hbox); have GW1 := gwk HK hg; have GE1 := gek HW0 (gwk HK hg); replace HK := kkb HK hb; have NB0_1 := IsS81.nl HI0 hg; have NB1_0 := ns (IsS81.nl HI0 hg); replace HI0 := IsS81.kb HI0 hb; clear hb hbox hg) | ((with_reducible refine gate_callee (f := 54) rfl ?_); refine goK (some 5) Try.func54 #[.pointer (some ⟨g, 0, none⟩), .int .i64 6] ?_; (with_reducible refine (spec_l1Cur_one.calls g s0_0 s0_1 s0_2 6 false t483 t484 w0 _ ?side1 ?side2 A2.out).mono ?_); (case side1 => exact IsS81.w HI0); (case side2 => exact IsS81.bw HB HI0); rintro e w21 ⟨rfl, hi, hb, hk⟩; refine ⟨_, rfl, ?_⟩; replace BK1 := kbk BK1 NB1_0 hk; replace HK := kkt HK hk; replace HB := Aside0.mk (hb); replace HI0 := Aside0.mk (hi); (try clear hb); (try clear hk); (try clear hi)) | ((with_reducible refine gate_callee (f := 58) rfl ?_); refine goK (some 14) Try.func58 #[.pointer (some ⟨g, 0, none⟩), .int .i64 9] ?_; (with_reducible refine (spec_l1Cur_pick.calls g s0_0 t483 t484 9 t497 t498 t499 w0 _ ?side1 ?side2 A18.out).mono ?_); (case side1 => exact IsS81.w HI0); (case side2 => exact IsS81.bw HB HI0); rintro e w22 ⟨rfl, hi, hb, hk⟩; refine ⟨_, rfl, ?_⟩; replace BK1 := kbk BK1 NB1_0 hk; replace HK := kkt HK hk; replace HB := Aside0.mk (hb); replace HI0 := Aside0.mk (hi); (try clear hb); (try clear hk); (try clear hi)) | ((with_reducible refine gate_callee (f := 58) rfl ?_); refine goK (some 20) Try.func58 #[.pointer (some ⟨g, 0, none⟩), .int .i64 (wrap64 ((wrap64 (1 + t497)) + 1))] ?_; (with_reducible refine (spec_l1Cur_pick.calls g s0_0 t498 t499 (wrap64 ((wrap64 (1 + t497)) + 1)) t500 t501 t502 w0 _ ?side1 ?side2 A19.out).mono ?_); (case side1 => exact IsS81.w HI0); (case side2 => exact IsS81.bw HB HI0); rintro e w23 ⟨rfl, hi, hb, hk⟩; refine ⟨_, rfl, ?_⟩; replace BK1 := kbk BK1 NB1_0 hk; replace HK := kkt HK hk; replace HB := Aside0.mk (hb); replace HI0 := Aside0.mk (hi); (try clear hb); (try clear hk); (try clear hi); have hnb24 := up1 NB1_0; obtain ⟨hcz25_0, hcz25_1, hfz25_0, hfz25_1⟩ := kc2 BK1))
  refine bodyPost_ret (results_cell_row rfl _ _ gb1 23 #[.int .i64 (wrap64 (1 + t497)), .int .i64 t500] (0, 0) _ rfl (bt BK1) Try.underlying23 rfl (by kernel_rfl)) rfl ?_
  exact ⟨eqR, (IsS81.w HI0), (IsS81.bw HB HI0), (kk HK)⟩
 obtain ⟨y485, hy485⟩ : ∃ y_ : List Int, y_ = (([1, 7, 1000] : List Int)) := ⟨_, rfl⟩
 replace H : ((spec_l1Cur_among.f s0_0 t483 t484 y485).bind fun bt488 => ((spec_l1Cur_among.f s0_0 bt488.2.1 bt488.2.2 (([0, 1, 7, 999, 1000] : List Int))).bind fun bt494 => (some (bt488.1, bt494.1, bt494.2.1, bt494.2.2)))) = some (r1, r2, r3, r4) := by first | (rw [hy485]; with_reducible exact H) | (have H2_ := (Option.bind_some _ _).symm.trans H; first | (rw [hy485]; with_reducible exact H2_) | with_reducible exact H2_) | with_reducible exact H | (rw [hy485]; exact H) | exact H
 have Ny485 := Aside0.mk hy485
 clear hy485
 replace H := bindS H; obtain ⟨⟨t488, t489, t490⟩, A4, H⟩ := H
 obtain ⟨y491, hy491⟩ : ∃ y_ : List Int, y_ = (([0, 1, 7, 999, 1000] : List Int)) := ⟨_, rfl⟩
 replace H : ((spec_l1Cur_among.f s0_0 t489 t490 y491).bind fun bt494 => (some (t488, bt494.1, bt494.2.1, bt494.2.2))) = some (r1, r2, r3, r4) := by first | (rw [hy491]; with_reducible exact H) | (have H2_ := (Option.bind_some _ _).symm.trans H; first | (rw [hy491]; with_reducible exact H2_) | with_reducible exact H2_) | with_reducible exact H | (rw [hy491]; exact H) | exact H
 have Ny491 := Aside0.mk hy491
 clear hy491
 replace H := bindS H; obtain ⟨⟨t494, t495, t496⟩, A5, H⟩ := H
 simp only [Option.some.injEq, Prod.mk.injEq] at H
 obtain ⟨rfl, rfl, rfl, rfl⟩ := H
 go_enter Try.func69, Try.ntmps69
 go_wp2_with (first | ((with_reducible refine gate_dst (N := 2) rfl ?_); refine boxP (N := 2) (cs := #[.int .i64 0, .int .i64 0]) (t := 23) (h := ?_); intro gb1 hg w6 hbox hb; replace HB := IsS81.kbw HB HI0 hb; have BK1 := Aside0.mk (hbox); have GW1 := gwk HK hg; have GE1 := gek HW0 (gwk HK hg); replace HK := kkb HK hb; have NB0_1 := IsS81.nl HI0 hg; have NB1_0 := ns (IsS81.nl HI0 hg); replace HI0 := IsS81.kb HI0 hb; clear hb hbox hg) | ((with_reducible refine gate_callee (f := 54) rfl ?_); refine goK (some 5) Try.func54 #[.pointer (some ⟨g, 0, none⟩), .int .i64 6] ?_; (with_reducible refine (spec_l1Cur_one.calls g s0_0 s0_1 s0_2 6 true t483 t484 w0 _ ?side1 ?side2 A2.out).mono ?_); (case side1 => exact IsS81.w HI0); (case side2 => exact IsS81.bw HB HI0); rintro e w7 ⟨rfl, hi, hb, hk⟩; refine ⟨_, rfl, ?_⟩; replace BK1 := kbk BK1 NB1_0 hk; replace HK := kkt HK hk; replace HB := Aside0.mk (hb); replace HI0 := Aside0.mk (hi); (try clear hb); (try clear hk); (try clear hi)) | ((with_reducible refine gate_dst (N := 7) rfl ?_); refine Kd.R_lit (Kd.int .i64) _ 3 ?hg (N := 7) ?hd (xs := ([1, 7, 1000] : List Int)) (inner := [.int .i64 1, .int .i64 7, .int .i64 1000]) (ok := fun _ => True) (okp := fun _ => True) ?hr ?hp (fun _ hk => hk) trivial (Below.refl _ _) (Nat.le_refl _) (by simp) ?_; (case hd => rfl); (case hg => rfl); (case hr => first | (go_simp; done) | (go_simp; rfl)); (case hp => exact (Reps.one (show Kd.M (Kd.int .i64) _ _ _ 1 [.int .i64 1] from rfl) (Reps.one (show Kd.M (Kd.int .i64) _ _ _ 7 [.int .i64 7] from rfl) (Reps.one (show Kd.M (Kd.int .i64) _ _ _ 1000 [.int .i64 1000] from rfl) (Reps.none _ _))))); intro v486 w8 ho9 hb hg_ hnew_; clear hg_ hnew_; (first | rw [← Ny485.out] at ho9 | (simp only [Int.reduceToNat] at ho9; rw [← Ny485.out] at ho9)); have HO487 := Aside0.mk (Kd.R_lower ho9 (keep_size (w := w) (g := g) (row := none) (kk HK))); replace BK1 := kb BK1 hb; replace HK := kkb HK hb; replace HB := IsS81.kbw HB HI0 hb; replace HI0 := IsS81.kb HI0 hb; clear hb ho9; obtain ⟨Ao10, co10, eo10⟩ := Kd.R_slice HO487.out; subst eo10) | ((with_reducible refine gate_callee (f := 56) rfl ?_); refine goK (some 8) Try.func56 #[.pointer (some ⟨g, 0, none⟩), .slice Ao10 y485.length co10] ?_; (with_reducible refine (spec_l1Cur_among.calls g s0_0 t483 t484 _ _ y485 t488 t489 t490 w0 _ ?side1 ?side2 ?side3 ?side4 ?side5 A4.out).mono ?_); (case side1 => exact IsS81.w HI0); (case side2 => exact IsS81.bw HB HI0); (case side3 => exact rs HO487); (case side4 => exact rl HO487); (case side5 => exact far_slice (IsS81.own_ne HI0.out HO487.out (by decide))); rintro e w11 ⟨rfl, hi, hb, hk⟩; refine ⟨_, rfl, ?_⟩; replace BK1 := kbk BK1 NB1_0 hk; replace HO487 := Aside0.mk (Kd.R_mono (Kd.R_keep (IsS81.apart (show IsS81 w0 _ g s0_0 t483 t484 from (IsS81.w HI0)) (ro HO487) (by decide)) hk (fun _ h => h.2)) (fun _ h => h.1)); replace HK := kkt HK hk; replace HB := Aside0.mk (hb); replace HI0 := Aside0.mk (hi); (try clear hb); (try clear hk); (try clear hi)) | ((with_reducible refine gate_dst (N := 10) rfl ?_); refine Kd.R_lit (Kd.int .i64) _ 3 ?hg (N := 10) ?hd (xs := ([0, 1, 7, 999, 1000] : List Int)) (inner := [.int .i64 0, .int .i64 1, .int .i64 7, .int .i64 999, .int .i64 1000]) (ok := fun _ => True) (okp := fun _ => True) ?hr ?hp (fun _ hk => hk) trivial (Below.refl _ _) (Nat.le_refl _) (by simp) ?_; (case hd => rfl); (case hg => rfl); (case hr => first | (go_simp; done) | (go_simp; rfl)); (case hp => exact (Reps.one (show Kd.M (Kd.int .i64) _ _ _ 0 [.int .i64 0] from rfl) (Reps.one (show Kd.M (Kd.int .i64) _ _ _ 1 [.int .i64 1] from rfl) (Reps.one (show Kd.M (Kd.int .i64) _ _ _ 7 [.int .i64 7] from rfl) (Reps.one (show Kd.M (Kd.int .i64) _ _ _ 999 [.int .i64 999] from rfl) (Reps.one (show Kd.M (Kd.int .i64) _ _ _ 1000 [.int .i64 1000] from rfl) (Reps.none _ _))))))); intro v492 w12 ho13 hb hg_ hnew_; clear hg_ hnew_; (first | rw [← Ny491.out] at ho13 | (simp only [Int.reduceToNat] at ho13; rw [← Ny491.out] at ho13)); have HO493 := Aside0.mk (Kd.R_lower (Kd.R_new' ho13 (Kd.R_lt (ro HO487))) (keep_size (w := w) (g := g) (row := none) (kk HK))); replace HO487 := Aside0.mk (Kd.R_elder' (ro HO487) (Kd.R_base ho13) hb); replace BK1 := kb BK1 hb; replace HK := kkb HK hb; replace HB := IsS81.kbw HB HI0 hb; replace HI0 := IsS81.kb HI0 hb; clear hb ho13; obtain ⟨Ao14, co14, eo14⟩ := Kd.R_slice HO493.out; subst eo14) | ((with_reducible refine gate_callee (f := 56) rfl ?_); refine goK (some 11) Try.func56 #[.pointer (some ⟨g, 0, none⟩), .slice Ao14 y491.length co14] ?_; (with_reducible refine (spec_l1Cur_among.calls g s0_0 t489 t490 _ _ y491 t494 t495 t496 w0 _ ?side1 ?side2 ?side3 ?side4 ?side5 A5.out).mono ?_); (case side1 => exact IsS81.w HI0); (case side2 => exact IsS81.bw HB HI0); (case side3 => exact rs HO493); (case side4 => exact rl HO493); (case side5 => exact far_slice (IsS81.own_ne HI0.out HO493.out (by decide))); rintro e w15 ⟨rfl, hi, hb, hk⟩; refine ⟨_, rfl, ?_⟩; replace BK1 := kbk BK1 NB1_0 hk; replace HO487 := Aside0.mk (Kd.R_mono (Kd.R_keep (IsS81.apart (show IsS81 w0 _ g s0_0 t489 t490 from (IsS81.w HI0)) (ro HO487) (by decide)) hk (fun _ h => h.2)) (fun _ h => h.1)); replace HO493 := Aside0.mk (Kd.R_mono (Kd.R_keep (IsS81.apart (show IsS81 w0 _ g s0_0 t489 t490 from (IsS81.w HI0)) (ro HO493) (by decide)) hk (fun _ h => h.2)) (fun _ h => h.1)); replace HK := kkt HK hk; replace HB := Aside0.mk (hb); replace HI0 := Aside0.mk (hi); (try clear hb); (try clear hk); (try clear hi); have hnb16 := up1 NB1_0; obtain ⟨hcz17_0, hcz17_1, hfz17_0, hfz17_1⟩ := kc2 BK1))
 refine bodyPost_ret (results_cell_row rfl _ _ gb1 23 #[.int .i64 t488, .int .i64 t494] (0, 0) _ rfl (bt BK1) Try.underlying23 rfl (by kernel_rfl)) rfl ?_
 exact ⟨eqR, (IsS81.w HI0), (IsS81.bw HB HI0), (kk HK)⟩

/-! ### spec_l1Cur_snail: function 55 -/
def spec_l1Cur_snail.f (s0_0 : List Int) (s0_1 : Int) (s0_2 : Int) : Option (Int × Int × Int × Int) := (spec_l1Cur_one.f s0_0 s0_1 s0_2 14).bind fun bt504 => (if bt504.1 = true then ((spec_l1Cur_among.f s0_0 bt504.2.1 bt504.2.2 (([(-1), 0, 1, 1001, 4611686018427387904] : List Int))).bind fun bt510 => ((spec_l1Cur_among.f s0_0 bt510.2.1 bt510.2.2 (([(-1), 0, 1, 1001, (-9223372036854775808)] : List Int))).bind fun bt516 => (some (bt510.1, bt516.1, bt516.2.1, bt516.2.2)))) else ((spec_l1Cur_sureSnail.f s0_0 bt504.2.1 bt504.2.2).bind fun bt519 => (some (bt519.1, bt519.2.1, bt519.2.2.1, bt519.2.2.2))))
set_option maxHeartbeats 8000000 in
set_option maxRecDepth 100000 in
theorem spec_l1Cur_snail.calls (g : Nat) (s0_0 : List Int) (s0_1 : Int) (s0_2 : Int) (r1 : Int) (r2 : Int) (r3 : Int) (r4 : Int) (w0 w : World) (hI : IsS81 w0 w g s0_0 s0_1 s0_2) (hB : Below w0.heap.size w0 w) (h : spec_l1Cur_snail.f s0_0 s0_1 s0_2 = some (r1, r2, r3, r4)) :
    Calls Try.prog 55 #[.pointer (some ⟨g, 0, none⟩)] w fun e w' => e = .returned (.agg #[.int .i64 r1, .int .i64 r2]) ∧ IsS81 w0 w' g s0_0 r3 r4 ∧ Below w0.heap.size w0 w' ∧ KeepBut w w' g none := by
 have hu23 := Try.underlying23
 have HI0 := Aside0.mk hI
 have HK := Aside0.mk (KeepBut.refl w g none)
 have HL := Aside0.mk hB.size
 clear hI
 have HW0 := Aside0.mk hB.size
 have HB := Aside0.mk hB
 clear hB
 have H : ((spec_l1Cur_one.f s0_0 s0_1 s0_2 14).bind fun bt504 => (if bt504.1 = true then ((spec_l1Cur_among.f s0_0 bt504.2.1 bt504.2.2 (([(-1), 0, 1, 1001, 4611686018427387904] : List Int))).bind fun bt510 => ((spec_l1Cur_among.f s0_0 bt510.2.1 bt510.2.2 (([(-1), 0, 1, 1001, (-9223372036854775808)] : List Int))).bind fun bt516 => (some (bt510.1, bt516.1, bt516.2.1, bt516.2.2)))) else ((spec_l1Cur_sureSnail.f s0_0 bt504.2.1 bt504.2.2).bind fun bt519 => (some (bt519.1, bt519.2.1, bt519.2.2.1, bt519.2.2.2))))) = some (r1, r2, r3, r4) := h
 clear h
 replace H := bindS H; obtain ⟨⟨t504, t505, t506⟩, A2, H⟩ := H
 replace H := iteB H; rcases H with ⟨rfl, H⟩ | ⟨rfl, H⟩
 rotate_left
 ·
  replace H := bindS H; obtain ⟨⟨t519, t520, t521, t522⟩, A18, H⟩ := H
  simp only [Option.some.injEq, Prod.mk.injEq] at H
  obtain ⟨rfl, rfl, rfl, rfl⟩ := H
  go_enter Try.func55, Try.ntmps55
  go_wp2_with (first | ((with_reducible refine gate_dst (N := 2) rfl ?_); refine boxP (N := 2) (cs := #[.int .i64 0, .int .i64 0]) (t := 23) (h := ?_); intro gb1 hg w19 hbox hb; replace HB := IsS81.kbw HB HI0 hb; have BK1 := Aside0.mk (hbox); have GW1 := gwk HK hg; have GE1 := gek HW0 (gwk HK hg); replace HK := kkb HK hb; have NB0_1 := IsS81.nl HI0 hg; have NB1_0 := ns (IsS81.nl HI0 hg); replace HI0 := IsS81.kb HI0 hb; clear hb hbox hg) | ((with_reducible refine gate_callee (f := 54) rfl ?_); refine goK (some 4) Try.func54 #[.pointer (some ⟨g, 0, none⟩), .int .i64 14] ?_; (with_reducible refine (spec_l1Cur_one.calls g s0_0 s0_1 s0_2 14 false t505 t506 w0 _ ?side1 ?side2 A2.out).mono ?_); (case side1 => exact IsS81.w HI0); (case side2 => exact IsS81.bw HB HI0); rintro e w20 ⟨rfl, hi, hb, hk⟩; refine ⟨_, rfl, ?_⟩; replace BK1 := kbk BK1 NB1_0 hk; replace HK := kkt HK hk; replace HB := Aside0.mk (hb); replace HI0 := Aside0.mk (hi); (try clear hb); (try clear hk); (try clear hi)) | ((with_reducible refine gate_callee (f := 69) rfl ?_); refine goK (some 13) Try.func69 #[.pointer (some ⟨g, 0, none⟩)] ?_; (with_reducible refine (spec_l1Cur_sureSnail.calls g s0_0 t505 t506 t519 t520 t521 t522 w0 _ ?side1 ?side2 A18.out).mono ?_); (case side1 => exact IsS81.w HI0); (case side2 => exact IsS81.bw HB HI0); rintro e w21 ⟨rfl, hi, hb, hk⟩; refine ⟨_, rfl, ?_⟩; replace BK1 := kbk BK1 NB1_0 hk; replace HK := kkt HK hk; replace HB := Aside0.mk (hb); replace HI0 := Aside0.mk (hi); (try clear hb); (try clear hk); (try clear hi); have hnb22 := up1 NB1_0; obtain ⟨hcz23_0, hcz23_1, hfz23_0, hfz23_1⟩ := kc2 BK1))
  refine bodyPost_ret (results_cell_row rfl _ _ gb1 23 #[.int .i64 t519, .int .i64 t520] (0, 0) _ rfl (bt BK1) Try.underlying23 rfl (by kernel_rfl)) rfl ?_
  exact ⟨eqR, (IsS81.w HI0), (IsS81.bw HB HI0), (kk HK)⟩
 obtain ⟨y507, hy507⟩ : ∃ y_ : List Int, y_ = (([(-1), 0, 1, 1001, 4611686018427387904] : List Int)) := ⟨_, rfl⟩
 replace H : ((spec_l1Cur_among.f s0_0 t505 t506 y507).bind fun bt510 => ((spec_l1Cur_among.f s0_0 bt510.2.1 bt510.2.2 (([(-1), 0, 1, 1001, (-9223372036854775808)] : List Int))).bind fun bt516 => (some (bt510.1, bt516.1, bt516.2.1, bt516.2.2)))) = some (r1, r2, r3, r4) := by first | (rw [hy507]; with_reducible exact H) | (have H2_ := (Option.bind_some _ _).symm.trans H; first | (rw [hy507]; with_reducible exact H2_) | with_reducible exact H2_) | with_reducible exact H | (rw [hy507]; exact H) | exact H
 have Ny507 := Aside0.mk hy507
 clear hy507
 replace H := bindS H; obtain ⟨⟨t510, t511, t512⟩, A4, H⟩ := H
 obtain ⟨y513, hy513⟩ : ∃ y_ : List Int, y_ = (([(-1), 0, 1, 1001, (-9223372036854775808)] : List Int)) := ⟨_, rfl⟩
 replace H : ((spec_l1Cur_among.f s0_0 t511 t512 y513).bind fun bt516 => (some (t510, bt516.1, bt516.2.1, bt516.2.2))) = some (r1, r2, r3, r4) := by first | (rw [hy513]; with_reducible exact H) | (have H2_ := (Option.bind_some _ _).symm.trans H; first | (rw [hy513]; with_reducible exact H2_) | with_reducible exact H2_) | with_reducible exact H | (rw [hy513]; exact H) | exact H
 have Ny513 := Aside0.mk hy513
 clear hy513
 replace H := bindS H; obtain ⟨⟨t516, t517, t518⟩, A5, H⟩ := H
 simp only [Option.some.injEq, Prod.mk.injEq] at H
 obtain ⟨rfl, rfl, rfl, rfl⟩ := H
 go_enter Try.func55, Try.ntmps55
 go_wp2_with (first | ((with_reducible refine gate_dst (N := 2) rfl ?_); refine boxP (N := 2) (cs := #[.int .i64 0, .int .i64 0]) (t := 23) (h := ?_); intro gb1 hg w6 hbox hb; replace HB := IsS81.kbw HB HI0 hb; have BK1 := Aside0.mk (hbox); have GW1 := gwk HK hg; have GE1 := gek HW0 (gwk HK hg); replace HK := kkb HK hb; have NB0_1 := IsS81.nl HI0 hg; have NB1_0 := ns (IsS81.nl HI0 hg); replace HI0 := IsS81.kb HI0 hb; clear hb hbox hg) | ((with_reducible refine gate_callee (f := 54) rfl ?_); refine goK (some 4) Try.func54 #[.pointer (some ⟨g, 0, none⟩), .int .i64 14] ?_; (with_reducible refine (spec_l1Cur_one.calls g s0_0 s0_1 s0_2 14 true t505 t506 w0 _ ?side1 ?side2 A2.out).mono ?_); (case side1 => exact IsS81.w HI0); (case side2 => exact IsS81.bw HB HI0); rintro e w7 ⟨rfl, hi, hb, hk⟩; refine ⟨_, rfl, ?_⟩; replace BK1 := kbk BK1 NB1_0 hk; replace HK := kkt HK hk; replace HB := Aside0.mk (hb); replace HI0 := Aside0.mk (hi); (try clear hb); (try clear hk); (try clear hi)) | ((with_reducible refine gate_dst (N := 6) rfl ?_); refine Kd.R_lit (Kd.int .i64) _ 3 ?hg (N := 6) ?hd (xs := ([(-1), 0, 1, 1001, 4611686018427387904] : List Int)) (inner := [.int .i64 (-1), .int .i64 0, .int .i64 1, .int .i64 1001, .int .i64 4611686018427387904]) (ok := fun _ => True) (okp := fun _ => True) ?hr ?hp (fun _ hk => hk) trivial (Below.refl _ _) (Nat.le_refl _) (by simp) ?_; (case hd => rfl); (case hg => rfl); (case hr => first | (go_simp; done) | (go_simp; rfl)); (case hp => exact (Reps.one (show Kd.M (Kd.int .i64) _ _ _ (-1) [.int .i64 (-1)] from rfl) (Reps.one (show Kd.M (Kd.int .i64) _ _ _ 0 [.int .i64 0] from rfl) (Reps.one (show Kd.M (Kd.int .i64) _ _ _ 1 [.int .i64 1] from rfl) (Reps.one (show Kd.M (Kd.int .i64) _ _ _ 1001 [.int .i64 1001] from rfl) (Reps.one (show Kd.M (Kd.int .i64) _ _ _ 4611686018427387904 [.int .i64 4611686018427387904] from rfl) (Reps.none _ _))))))); intro v508 w8 ho9 hb hg_ hnew_; clear hg_ hnew_; (first | rw [← Ny507.out] at ho9 | (simp only [Int.reduceToNat] at ho9; rw [← Ny507.out] at ho9)); have HO509 := Aside0.mk (Kd.R_lower ho9 (keep_size (w := w) (g := g) (row := none) (kk HK))); replace BK1 := kb BK1 hb; replace HK := kkb HK hb; replace HB := IsS81.kbw HB HI0 hb; replace HI0 := IsS81.kb HI0 hb; clear hb ho9; obtain ⟨Ao10, co10, eo10⟩ := Kd.R_slice HO509.out; subst eo10) | ((with_reducible refine gate_callee (f := 56) rfl ?_); refine goK (some 7) Try.func56 #[.pointer (some ⟨g, 0, none⟩), .slice Ao10 y507.length co10] ?_; (with_reducible refine (spec_l1Cur_among.calls g s0_0 t505 t506 _ _ y507 t510 t511 t512 w0 _ ?side1 ?side2 ?side3 ?side4 ?side5 A4.out).mono ?_); (case side1 => exact IsS81.w HI0); (case side2 => exact IsS81.bw HB HI0); (case side3 => exact rs HO509); (case side4 => exact rl HO509); (case side5 => exact far_slice (IsS81.own_ne HI0.out HO509.out (by decide))); rintro e w11 ⟨rfl, hi, hb, hk⟩; refine ⟨_, rfl, ?_⟩; replace BK1 := kbk BK1 NB1_0 hk; replace HO509 := Aside0.mk (Kd.R_mono (Kd.R_keep (IsS81.apart (show IsS81 w0 _ g s0_0 t505 t506 from (IsS81.w HI0)) (ro HO509) (by decide)) hk (fun _ h => h.2)) (fun _ h => h.1)); replace HK := kkt HK hk; replace HB := Aside0.mk (hb); replace HI0 := Aside0.mk (hi); (try clear hb); (try clear hk); (try clear hi)) | ((with_reducible refine gate_dst (N := 9) rfl ?_); refine Kd.R_lit (Kd.int .i64) _ 3 ?hg (N := 9) ?hd (xs := ([(-1), 0, 1, 1001, (-9223372036854775808)] : List Int)) (inner := [.int .i64 (-1), .int .i64 0, .int .i64 1, .int .i64 1001, .int .i64 (-9223372036854775808)]) (ok := fun _ => True) (okp := fun _ => True) ?hr ?hp (fun _ hk => hk) trivial (Below.refl _ _) (Nat.le_refl _) (by simp) ?_; (case hd => rfl); (case hg => rfl); (case hr => first | (go_simp; done) | (go_simp; rfl)); (case hp => exact (Reps.one (show Kd.M (Kd.int .i64) _ _ _ (-1) [.int .i64 (-1)] from rfl) (Reps.one (show Kd.M (Kd.int .i64) _ _ _ 0 [.int .i64 0] from rfl) (Reps.one (show Kd.M (Kd.int .i64) _ _ _ 1 [.int .i64 1] from rfl) (Reps.one (show Kd.M (Kd.int .i64) _ _ _ 1001 [.int .i64 1001] from rfl) (Reps.one (show Kd.M (Kd.int .i64) _ _ _ (-9223372036854775808) [.int .i64 (-9223372036854775808)] from rfl) (Reps.none _ _))))))); intro v514 w12 ho13 hb hg_ hnew_; clear hg_ hnew_; (first | rw [← Ny513.out] at ho13 | (simp only [Int.reduceToNat] at ho13; rw [← Ny513.out] at ho13)); have HO515 := Aside0.mk (Kd.R_lower (Kd.R_new' ho13 (Kd.R_lt (ro HO509))) (keep_size (w := w) (g := g) (row := none) (kk HK))); replace HO509 := Aside0.mk (Kd.R_elder' (ro HO509) (Kd.R_base ho13) hb); replace BK1 := kb BK1 hb; replace HK := kkb HK hb; replace HB := IsS81.kbw HB HI0 hb; replace HI0 := IsS81.kb HI0 hb; clear hb ho13; obtain ⟨Ao14, co14, eo14⟩ := Kd.R_slice HO515.out; subst eo14) | ((with_reducible refine gate_callee (f := 56) rfl ?_); refine goK (some 10) Try.func56 #[.pointer (some ⟨g, 0, none⟩), .slice Ao14 y513.length co14] ?_; (with_reducible refine (spec_l1Cur_among.calls g s0_0 t511 t512 _ _ y513 t516 t517 t518 w0 _ ?side1 ?side2 ?side3 ?side4 ?side5 A5.out).mono ?_); (case side1 => exact IsS81.w HI0); (case side2 => exact IsS81.bw HB HI0); (case side3 => exact rs HO515); (case side4 => exact rl HO515); (case side5 => exact far_slice (IsS81.own_ne HI0.out HO515.out (by decide))); rintro e w15 ⟨rfl, hi, hb, hk⟩; refine ⟨_, rfl, ?_⟩; replace BK1 := kbk BK1 NB1_0 hk; replace HO509 := Aside0.mk (Kd.R_mono (Kd.R_keep (IsS81.apart (show IsS81 w0 _ g s0_0 t511 t512 from (IsS81.w HI0)) (ro HO509) (by decide)) hk (fun _ h => h.2)) (fun _ h => h.1)); replace HO515 := Aside0.mk (Kd.R_mono (Kd.R_keep (IsS81.apart (show IsS81 w0 _ g s0_0 t511 t512 from (IsS81.w HI0)) (ro HO515) (by decide)) hk (fun _ h => h.2)) (fun _ h => h.1)); replace HK := kkt HK hk; replace HB := Aside0.mk (hb); replace HI0 := Aside0.mk (hi); (try clear hb); (try clear hk); (try clear hi); have hnb16 := up1 NB1_0; obtain ⟨hcz17_0, hcz17_1, hfz17_0, hfz17_1⟩ := kc2 BK1))
 refine bodyPost_ret (results_cell_row rfl _ _ gb1 23 #[.int .i64 t510, .int .i64 t516] (0, 0) _ rfl (bt BK1) Try.underlying23 rfl (by kernel_rfl)) rfl ?_
 exact ⟨eqR, (IsS81.w HI0), (IsS81.bw HB HI0), (kk HK)⟩

/-! ### spec_l1Cur_hidden: function 57 -/
def spec_l1Cur_hidden.f (s0_0 : List Int) (s0_1 : Int) (s0_2 : Int) : Option (Int × Int × Int × Int) := (spec_l1Cur_pick.f s0_0 s0_1 s0_2 12).bind fun bt524 => ((spec_l1Cur_pick.f s0_0 bt524.2.1 bt524.2.2 13).bind fun bt527 => (some (wrap64 (1 + bt524.1), bt527.1, bt527.2.1, bt527.2.2)))
set_option maxHeartbeats 8000000 in
set_option maxRecDepth 100000 in
theorem spec_l1Cur_hidden.calls (g : Nat) (s0_0 : List Int) (s0_1 : Int) (s0_2 : Int) (r1 : Int) (r2 : Int) (r3 : Int) (r4 : Int) (w0 w : World) (hI : IsS81 w0 w g s0_0 s0_1 s0_2) (hB : Below w0.heap.size w0 w) (h : spec_l1Cur_hidden.f s0_0 s0_1 s0_2 = some (r1, r2, r3, r4)) :
    Calls Try.prog 57 #[.pointer (some ⟨g, 0, none⟩)] w fun e w' => e = .returned (.agg #[.int .i64 r1, .int .i64 r2]) ∧ IsS81 w0 w' g s0_0 r3 r4 ∧ Below w0.heap.size w0 w' ∧ KeepBut w w' g none := by
 have hu23 := Try.underlying23
 have HI0 := Aside0.mk hI
 have HK := Aside0.mk (KeepBut.refl w g none)
 have HL := Aside0.mk hB.size
 clear hI
 have HW0 := Aside0.mk hB.size
 have HB := Aside0.mk hB
 clear hB
 have H : ((spec_l1Cur_pick.f s0_0 s0_1 s0_2 12).bind fun bt524 => ((spec_l1Cur_pick.f s0_0 bt524.2.1 bt524.2.2 13).bind fun bt527 => (some (wrap64 (1 + bt524.1), bt527.1, bt527.2.1, bt527.2.2)))) = some (r1, r2, r3, r4) := h
 clear h
 replace H := bindS H; obtain ⟨⟨t524, t525, t526⟩, A2, H⟩ := H
 replace H := bindS H; obtain ⟨⟨t527, t528, t529⟩, A3, H⟩ := H
 simp only [Option.some.injEq, Prod.mk.injEq] at H
 obtain ⟨rfl, rfl, rfl, rfl⟩ := H
 go_enter Try.func57, Try.ntmps57
 go_wp2_with (first | ((with_reducible refine gate_dst (N := 2) rfl ?_); refine boxP (N := 2) (cs := #[.int .i64 0, .int .i64 0]) (t := 23) (h := ?_); intro gb1 hg w4 hbox hb; replace HB := IsS81.kbw HB HI0 hb; have BK1 := Aside0.mk (hbox); have GW1 := gwk HK hg; have GE1 := gek HW0 (gwk HK hg); replace HK := kkb HK hb; have NB0_1 := IsS81.nl HI0 hg; have NB1_0 := ns (IsS81.nl HI0 hg); replace HI0 := IsS81.kb HI0 hb; clear hb hbox hg) | ((with_reducible refine gate_callee (f := 58) rfl ?_); refine goK (some 4) Try.func58 #[.pointer (some ⟨g, 0, none⟩), .int .i64 12] ?_; (with_reducible refine (spec_l1Cur_pick.calls g s0_0 s0_1 s0_2 12 t524 t525 t526 w0 _ ?side1 ?side2 A2.out).mono ?_); (case side1 => exact IsS81.w HI0); (case side2 => exact IsS81.bw HB HI0); rintro e w5 ⟨rfl, hi, hb, hk⟩; refine ⟨_, rfl, ?_⟩; replace BK1 := kbk BK1 NB1_0 hk; replace HK := kkt HK hk; replace HB := Aside0.mk (hb); replace HI0 := Aside0.mk (hi); (try clear hb); (try clear hk); (try clear hi)) | ((with_reducible refine gate_callee (f := 58) rfl ?_); refine goK (some 7) Try.func58 #[.pointer (some ⟨g, 0, none⟩), .int .i64 13] ?_; (with_reducible refine (spec_l1Cur_pick.calls g s0_0 t525 t526 13 t527 t528 t529 w0 _ ?side1 ?side2 A3.out).mono ?_); (case side1 => exact IsS81.w HI0); (case side2 => exact IsS81.bw HB HI0); rintro e w6 ⟨rfl, hi, hb, hk⟩; refine ⟨_, rfl, ?_⟩; replace BK1 := kbk BK1 NB1_0 hk; replace HK := kkt HK hk; replace HB := Aside0.mk (hb); replace HI0 := Aside0.mk (hi); (try clear hb); (try clear hk); (try clear hi); have hnb7 := up1 NB1_0; obtain ⟨hcz8_0, hcz8_1, hfz8_0, hfz8_1⟩ := kc2 BK1))
 refine bodyPost_ret (results_cell_row rfl _ _ gb1 23 #[.int .i64 (wrap64 (1 + t524)), .int .i64 t527] (0, 0) _ rfl (bt BK1) Try.underlying23 rfl (by kernel_rfl)) rfl ?_
 exact ⟨eqR, (IsS81.w HI0), (IsS81.bw HB HI0), (kk HK)⟩

/-! ### spec_DrawMakePuzzle: function 26 -/
def spec_DrawMakePuzzle.f (l0 : List Int) : Option (Int × Int × Int × Int) := (spec_l1Cur_one.f l0 0 0 12).bind fun bt532 => (if bt532.1 = true then ((spec_l1Cur_snail.f l0 bt532.2.1 bt532.2.2).bind fun bt535 => ((spec_l1Cur_among.f l0 bt535.2.2.1 bt535.2.2.2 (([(-1), 6, 7] : List Int))).bind fun bt542 => ((spec_l1Cur_among.f l0 bt542.2.1 bt542.2.2 (([(-1), 9999, 10000] : List Int))).bind fun bt548 => (some (bt535.1, bt535.2.1, bt542.1, bt548.1))))) else ((spec_l1Cur_hidden.f l0 bt532.2.1 bt532.2.2).bind fun bt551 => ((spec_l1Cur_pick.f l0 bt551.2.2.1 bt551.2.2.2 7).bind fun bt555 => ((spec_l1Cur_pick.f l0 bt555.2.1 bt555.2.2 10000).bind fun bt558 => (some (bt551.1, bt551.2.1, bt555.1, bt558.1))))))
set_option maxHeartbeats 8000000 in
set_option maxRecDepth 100000 in
theorem spec_DrawMakePuzzle.calls (A0 : Option Addr) (c0 : Nat) (l0 : List Int) (r1 : Int) (r2 : Int) (r3 : Int) (r4 : Int) (w : World) (hr0 : Kd.C (Kd.int .u8) w A0 l0.length l0) (hc0 : l0.length ≤ c0) (h : spec_DrawMakePuzzle.f l0 = some (r1, r2, r3, r4)) :
    Calls Try.prog 26 #[.slice A0 l0.length c0] w fun e w' => e = .returned (.tuple #[.agg #[.int .i64 r1, .int .i64 r2], .int .i64 r3, .int .i64 r4]) ∧ Below w.heap.size w w' := by
 have hu23 := Try.underlying23
 have hu81 := Try.underlying81
 have HR0 := Aside0.mk hr0
 have HC0 := Aside0.mk hc0
 clear hr0 hc0
 have HB := Aside0.mk (Below.refl w.heap.size w)
 have H : ((spec_l1Cur_one.f l0 0 0 12).bind fun bt532 => (if bt532.1 = true then ((spec_l1Cur_snail.f l0 bt532.2.1 bt532.2.2).bind fun bt535 => ((spec_l1Cur_among.f l0 bt535.2.2.1 bt535.2.2.2 (([(-1), 6, 7] : List Int))).bind fun bt542 => ((spec_l1Cur_among.f l0 bt542.2.1 bt542.2.2 (([(-1), 9999, 10000] : List Int))).bind fun bt548 => (some (bt535.1, bt535.2.1, bt542.1, bt548.1))))) else ((spec_l1Cur_hidden.f l0 bt532.2.1 bt532.2.2).bind fun bt551 => ((spec_l1Cur_pick.f l0 bt551.2.2.1 bt551.2.2.2 7).bind fun bt555 => ((spec_l1Cur_pick.f l0 bt555.2.1 bt555.2.2 10000).bind fun bt558 => (some (bt551.1, bt551.2.1, bt555.1, bt558.1))))))) = some (r1, r2, r3, r4) := h
 clear h
 replace H := bindS H; obtain ⟨⟨t532, t533, t534⟩, A2, H⟩ := H
 replace H := iteB H; rcases H with ⟨rfl, H⟩ | ⟨rfl, H⟩
 rotate_left
 ·
  replace H := bindS H; obtain ⟨⟨t551, t552, t553, t554⟩, A21, H⟩ := H
  replace H := bindS H; obtain ⟨⟨t555, t556, t557⟩, A22, H⟩ := H
  replace H := bindS H; obtain ⟨⟨t558, t559, t560⟩, A23, H⟩ := H
  simp only [Option.some.injEq, Prod.mk.injEq] at H
  obtain ⟨rfl, rfl, rfl, rfl⟩ := H
  go_enter Try.func26, Try.ntmps26
  go_wp2_with (first | ((with_reducible refine gate_dst (N := 2) rfl ?_); refine boxK HB (N := 2) (cs := #[.int .i64 0, .int .i64 0]) (t := 23) (h := ?_); clear HB; intro gb1 hg w24 BK1 GW1 GE1 HB hb; clear hb hg) | ((with_reducible refine gate_dst (N := 8) rfl ?_); refine boxP (N := 8) (cs := #[.slice A0 l0.length c0, .int .i64 0, .int .u64 0]) (t := 81) (h := ?_); intro gb2 hg w25 hbox hb; obtain ⟨NB1_2, NB2_1⟩ := nv1 hg BK1; replace BK1 := kb BK1 hb; have HI531 := Aside0.mk ((⟨_, _, hbox, (by rw [hg]; exact (below_size (bw HB))), HR0.out⟩ : IsS81 w w25 gb2 l0 0 0)); replace HB := kw HB hb; clear hb hbox hg) | ((with_reducible refine gate_callee (f := 54) rfl ?_); refine goK (some 10) Try.func54 #[.pointer (some ⟨gb2, 0, none⟩), .int .i64 12] ?_; (with_reducible refine (spec_l1Cur_one.calls gb2 l0 0 0 12 false t533 t534 w _ ?side1 ?side2 A2.out).mono ?_); (case side1 => exact IsS81.w HI531); (case side2 => exact IsS81.bw HB HI531); rintro e w26 ⟨rfl, hi, hb, hk⟩; refine ⟨_, rfl, ?_⟩; replace BK1 := kbk BK1 NB1_2 hk; replace HB := Aside0.mk (hb); replace HI531 := Aside0.mk (hi); (try clear hb); (try clear hk); (try clear hi)) | ((with_reducible refine gate_callee (f := 57) rfl ?_); refine goK (some 20) Try.func57 #[.pointer (some ⟨gb2, 0, none⟩)] ?_; (with_reducible refine (spec_l1Cur_hidden.calls gb2 l0 t533 t534 t551 t552 t553 t554 w _ ?side1 ?side2 A21.out).mono ?_); (case side1 => exact IsS81.w HI531); (case side2 => exact IsS81.bw HB HI531); rintro e w27 ⟨rfl, hi, hb, hk⟩; refine ⟨_, rfl, ?_⟩; replace BK1 := kbk BK1 NB1_2 hk; replace HB := Aside0.mk (hb); replace HI531 := Aside0.mk (hi); (try clear hb); (try clear hk); (try clear hi)) | ((with_reducible refine gate_callee (f := 58) rfl ?_); refine goK (some 22) Try.func58 #[.pointer (some ⟨gb2, 0, none⟩), .int .i64 7] ?_; (with_reducible refine (spec_l1Cur_pick.calls gb2 l0 t553 t554 7 t555 t556 t557 w _ ?side1 ?side2 A22.out).mono ?_); (case side1 => exact IsS81.w HI531); (case side2 => exact IsS81.bw HB HI531); rintro e w28 ⟨rfl, hi, hb, hk⟩; refine ⟨_, rfl, ?_⟩; replace BK1 := kbk BK1 NB1_2 hk; replace HB := Aside0.mk (hb); replace HI531 := Aside0.mk (hi); (try clear hb); (try clear hk); (try clear hi)) | ((with_reducible refine gate_callee (f := 58) rfl ?_); refine goK (some 24) Try.func58 #[.pointer (some ⟨gb2, 0, none⟩), .int .i64 10000] ?_; (with_reducible refine (spec_l1Cur_pick.calls gb2 l0 t556 t557 10000 t558 t559 t560 w _ ?side1 ?side2 A23.out).mono ?_); (case side1 => exact IsS81.w HI531); (case side2 => exact IsS81.bw HB HI531); rintro e w29 ⟨rfl, hi, hb, hk⟩; refine ⟨_, rfl, ?_⟩; replace BK1 := kbk BK1 NB1_2 hk; replace HB := Aside0.mk (hb); replace HI531 := Aside0.mk (hi); (try clear hb); (try clear hk); (try clear hi); have hnb30 := up1 NB1_2; obtain ⟨hcz31_0, hcz31_1, hfz31_0, hfz31_1⟩ := kc2 BK1))
  refine bodyPost_ret (results_ctt rfl _ _ gb1 23 #[.int .i64 t551, .int .i64 t552] (0, 0) _ rfl (bt BK1) Try.underlying23 rfl (by kernel_rfl)) rfl ?_
  exact ⟨eqR, (IsS81.bw HB HI531)⟩
 replace H := bindS H; obtain ⟨⟨t535, t536, t537, t538⟩, A4, H⟩ := H
 obtain ⟨y539, hy539⟩ : ∃ y_ : List Int, y_ = (([(-1), 6, 7] : List Int)) := ⟨_, rfl⟩
 replace H : ((spec_l1Cur_among.f l0 t537 t538 y539).bind fun bt542 => ((spec_l1Cur_among.f l0 bt542.2.1 bt542.2.2 (([(-1), 9999, 10000] : List Int))).bind fun bt548 => (some (t535, t536, bt542.1, bt548.1)))) = some (r1, r2, r3, r4) := by first | (rw [hy539]; with_reducible exact H) | (have H2_ := (Option.bind_some _ _).symm.trans H; first | (rw [hy539]; with_reducible exact H2_) | with_reducible exact H2_) | with_reducible exact H | (rw [hy539]; exact H) | exact H
 have Ny539 := Aside0.mk hy539
 clear hy539
 replace H := bindS H; obtain ⟨⟨t542, t543, t544⟩, A5, H⟩ := H
 obtain ⟨y545, hy545⟩ : ∃ y_ : List Int, y_ = (([(-1), 9999, 10000] : List Int)) := ⟨_, rfl⟩
 replace H : ((spec_l1Cur_among.f l0 t543 t544 y545).bind fun bt548 => (some (t535, t536, t542, bt548.1))) = some (r1, r2, r3, r4) := by first | (rw [hy545]; with_reducible exact H) | (have H2_ := (Option.bind_some _ _).symm.trans H; first | (rw [hy545]; with_reducible exact H2_) | with_reducible exact H2_) | with_reducible exact H | (rw [hy545]; exact H) | exact H
 have Ny545 := Aside0.mk hy545
 clear hy545
 replace H := bindS H; obtain ⟨⟨t548, t549, t550⟩, A6, H⟩ := H
 simp only [Option.some.injEq, Prod.mk.injEq] at H
 obtain ⟨rfl, rfl, rfl, rfl⟩ := H
 go_enter Try.func26, Try.ntmps26
 go_wp2_with (first | ((with_reducible refine gate_dst (N := 2) rfl ?_); refine boxK HB (N := 2) (cs := #[.int .i64 0, .int .i64 0]) (t := 23) (h := ?_); clear HB; intro gb1 hg w7 BK1 GW1 GE1 HB hb; clear hb hg) | ((with_reducible refine gate_dst (N := 8) rfl ?_); refine boxP (N := 8) (cs := #[.slice A0 l0.length c0, .int .i64 0, .int .u64 0]) (t := 81) (h := ?_); intro gb2 hg w8 hbox hb; obtain ⟨NB1_2, NB2_1⟩ := nv1 hg BK1; replace BK1 := kb BK1 hb; have HI531 := Aside0.mk ((⟨_, _, hbox, (by rw [hg]; exact (below_size (bw HB))), HR0.out⟩ : IsS81 w w8 gb2 l0 0 0)); replace HB := kw HB hb; clear hb hbox hg) | ((with_reducible refine gate_callee (f := 54) rfl ?_); refine goK (some 10) Try.func54 #[.pointer (some ⟨gb2, 0, none⟩), .int .i64 12] ?_; (with_reducible refine (spec_l1Cur_one.calls gb2 l0 0 0 12 true t533 t534 w _ ?side1 ?side2 A2.out).mono ?_); (case side1 => exact IsS81.w HI531); (case side2 => exact IsS81.bw HB HI531); rintro e w9 ⟨rfl, hi, hb, hk⟩; refine ⟨_, rfl, ?_⟩; replace BK1 := kbk BK1 NB1_2 hk; replace HB := Aside0.mk (hb); replace HI531 := Aside0.mk (hi); (try clear hb); (try clear hk); (try clear hi)) | ((with_reducible refine gate_callee (f := 55) rfl ?_); refine goK (some 12) Try.func55 #[.pointer (some ⟨gb2, 0, none⟩)] ?_; (with_reducible refine (spec_l1Cur_snail.calls gb2 l0 t533 t534 t535 t536 t537 t538 w _ ?side1 ?side2 A4.out).mono ?_); (case side1 => exact IsS81.w HI531); (case side2 => exact IsS81.bw HB HI531); rintro e w10 ⟨rfl, hi, hb, hk⟩; refine ⟨_, rfl, ?_⟩; replace BK1 := kbk BK1 NB1_2 hk; replace HB := Aside0.mk (hb); replace HI531 := Aside0.mk (hi); (try clear hb); (try clear hk); (try clear hi)) | ((with_reducible refine gate_dst (N := 14) rfl ?_); refine Kd.R_lit (Kd.int .i64) _ 3 ?hg (N := 14) ?hd (xs := ([(-1), 6, 7] : List Int)) (inner := [.int .i64 (-1), .int .i64 6, .int .i64 7]) (ok := fun _ => True) (okp := fun _ => True) ?hr ?hp (fun _ hk => hk) trivial (Below.refl _ _) (Nat.le_refl _) (by simp) ?_; (case hd => rfl); (case hg => rfl); (case hr => first | (go_simp; done) | (go_simp; rfl)); (case hp => exact (Reps.one (show Kd.M (Kd.int .i64) _ _ _ (-1) [.int .i64 (-1)] from rfl) (Reps.one (show Kd.M (Kd.int .i64) _ _ _ 6 [.int .i64 6] from rfl) (Reps.one (show Kd.M (Kd.int .i64) _ _ _ 7 [.int .i64 7] from rfl) (Reps.none _ _))))); intro v540 w11 ho12 hb hg_ hnew_; clear hg_ hnew_; (first | rw [← Ny539.out] at ho12 | (simp only [Int.reduceToNat] at ho12; rw [← Ny539.out] at ho12)); have HO541 := Aside0.mk (Kd.R_lower ho12 (below_size (IsS81.bw HB HI531))); replace BK1 := kb BK1 hb; replace HB := IsS81.kbw HB HI531 hb; replace HI531 := IsS81.kb HI531 hb; clear hb ho12; obtain ⟨Ao13, co13, eo13⟩ := Kd.R_slice HO541.out; subst eo13) | ((with_reducible refine gate_callee (f := 56) rfl ?_); refine goK (some 15) Try.func56 #[.pointer (some ⟨gb2, 0, none⟩), .slice Ao13 y539.length co13] ?_; (with_reducible refine (spec_l1Cur_among.calls gb2 l0 t537 t538 _ _ y539 t542 t543 t544 w _ ?side1 ?side2 ?side3 ?side4 ?side5 A5.out).mono ?_); (case side1 => exact IsS81.w HI531); (case side2 => exact IsS81.bw HB HI531); (case side3 => exact rs HO541); (case side4 => exact rl HO541); (case side5 => exact far_slice (IsS81.own_ne HI531.out HO541.out (by decide))); rintro e w14 ⟨rfl, hi, hb, hk⟩; refine ⟨_, rfl, ?_⟩; replace BK1 := kbk BK1 NB1_2 hk; replace HO541 := Aside0.mk (Kd.R_mono (Kd.R_keep (IsS81.apart (show IsS81 w _ gb2 l0 t537 t538 from (IsS81.w HI531)) (ro HO541) (by decide)) hk (fun _ h => h.2)) (fun _ h => h.1)); replace HB := Aside0.mk (hb); replace HI531 := Aside0.mk (hi); (try clear hb); (try clear hk); (try clear hi)) | ((with_reducible refine gate_dst (N := 17) rfl ?_); refine Kd.R_lit (Kd.int .i64) _ 3 ?hg (N := 17) ?hd (xs := ([(-1), 9999, 10000] : List Int)) (inner := [.int .i64 (-1), .int .i64 9999, .int .i64 10000]) (ok := fun _ => True) (okp := fun _ => True) ?hr ?hp (fun _ hk => hk) trivial (Below.refl _ _) (Nat.le_refl _) (by simp) ?_; (case hd => rfl); (case hg => rfl); (case hr => first | (go_simp; done) | (go_simp; rfl)); (case hp => exact (Reps.one (show Kd.M (Kd.int .i64) _ _ _ (-1) [.int .i64 (-1)] from rfl) (Reps.one (show Kd.M (Kd.int .i64) _ _ _ 9999 [.int .i64 9999] from rfl) (Reps.one (show Kd.M (Kd.int .i64) _ _ _ 10000 [.int .i64 10000] from rfl) (Reps.none _ _))))); intro v546 w15 ho16 hb hg_ hnew_; clear hg_ hnew_; (first | rw [← Ny545.out] at ho16 | (simp only [Int.reduceToNat] at ho16; rw [← Ny545.out] at ho16)); have HO547 := Aside0.mk (Kd.R_lower (Kd.R_new' ho16 (Kd.R_lt (ro HO541))) (below_size (IsS81.bw HB HI531))); replace HO541 := Aside0.mk (Kd.R_elder' (ro HO541) (Kd.R_base ho16) hb); replace BK1 := kb BK1 hb; replace HB := IsS81.kbw HB HI531 hb; replace HI531 := IsS81.kb HI531 hb; clear hb ho16; obtain ⟨Ao17, co17, eo17⟩ := Kd.R_slice HO547.out; subst eo17) | ((with_reducible refine gate_callee (f := 56) rfl ?_); refine goK (some 18) Try.func56 #[.pointer (some ⟨gb2, 0, none⟩), .slice Ao17 y545.length co17] ?_; (with_reducible refine (spec_l1Cur_among.calls gb2 l0 t543 t544 _ _ y545 t548 t549 t550 w _ ?side1 ?side2 ?side3 ?side4 ?side5 A6.out).mono ?_); (case side1 => exact IsS81.w HI531); (case side2 => exact IsS81.bw HB HI531); (case side3 => exact rs HO547); (case side4 => exact rl HO547); (case side5 => exact far_slice (IsS81.own_ne HI531.out HO547.out (by decide))); rintro e w18 ⟨rfl, hi, hb, hk⟩; refine ⟨_, rfl, ?_⟩; replace BK1 := kbk BK1 NB1_2 hk; replace HO541 := Aside0.mk (Kd.R_mono (Kd.R_keep (IsS81.apart (show IsS81 w _ gb2 l0 t543 t544 from (IsS81.w HI531)) (ro HO541) (by decide)) hk (fun _ h => h.2)) (fun _ h => h.1)); replace HO547 := Aside0.mk (Kd.R_mono (Kd.R_keep (IsS81.apart (show IsS81 w _ gb2 l0 t543 t544 from (IsS81.w HI531)) (ro HO547) (by decide)) hk (fun _ h => h.2)) (fun _ h => h.1)); replace HB := Aside0.mk (hb); replace HI531 := Aside0.mk (hi); (try clear hb); (try clear hk); (try clear hi); have hnb19 := up1 NB1_2; obtain ⟨hcz20_0, hcz20_1, hfz20_0, hfz20_1⟩ := kc2 BK1))
 refine bodyPost_ret (results_ctt rfl _ _ gb1 23 #[.int .i64 t535, .int .i64 t536] (0, 0) _ rfl (bt BK1) Try.underlying23 rfl (by kernel_rfl)) rfl ?_
 exact ⟨eqR, (IsS81.bw HB HI531)⟩

/-! ### spec_l1Cur_clue: function 60 -/
mutual
def spec_l1Cur_clue.j0 : Nat → Bool → List Int → Int → Int → Int → Int → Int → Option (Int × Int × Int × Int × Int)
  | 0, _, _, _, _, _, _, _ => none
  | k + 1, x28, x1000, x1001, x1002, x575000, x575001, x575002 => if x28 = true then ((spec_l1Cur_pick.f x1000 x1001 x1002 20).bind fun bt578 => ((spec_l1Cur_pick.f x1000 bt578.2.1 bt578.2.2 9).bind fun bt581 => (spec_l1Cur_clue.j1 k x1000 bt581.2.1 bt581.2.2 x575000 (wrap64 ((wrap64 (1 + bt578.1)) - (wrap64 (Int.tdiv bt581.1 8)))) x575002))) else (spec_l1Cur_clue.j1 k x1000 x1001 x1002 x575000 x575001 x575002)
def spec_l1Cur_clue.j1 : Nat → List Int → Int → Int → Int → Int → Int → Option (Int × Int × Int × Int × Int)
  | 0, _, _, _, _, _, _ => none
  | k + 1, x1000, x1001, x1002, x575000, x575001, x575002 => if x575000 = 3 then ((spec_l1Cur_pick.f x1000 x1001 x1002 10).bind fun bt584 => ((spec_l1Cur_pick.f x1000 bt584.2.1 bt584.2.2 3).bind fun bt587 => (some (x575000, wrap64 (1 + bt584.1), bt587.1, bt587.2.1, bt587.2.2)))) else (some (x575000, x575001, x575002, x1001, x1002))
end
def spec_l1Cur_clue.f (k : Nat) (s0_0 : List Int) (s0_1 : Int) (s0_2 : Int) : Option (Int × Int × Int × Int × Int) := (spec_l1Cur_pick.f s0_0 s0_1 s0_2 5).bind fun bt562 => ((spec_l1Cur_pick.f s0_0 bt562.2.1 bt562.2.2 9).bind fun bt565 => ((spec_l1Cur_pick.f s0_0 bt565.2.1 bt565.2.2 12).bind fun bt568 => ((spec_l1Cur_pick.f s0_0 bt568.2.1 bt568.2.2 9).bind fun bt571 => (if (wrap64 (bt562.1 + (wrap64 (Int.tdiv bt565.1 8)))) < 2 then (spec_l1Cur_clue.j0 k true s0_0 bt571.2.1 bt571.2.2 (wrap64 (bt562.1 + (wrap64 (Int.tdiv bt565.1 8)))) 0 (wrap64 (bt568.1 - (wrap64 (Int.tdiv bt571.1 8))))) else (if (wrap64 (bt562.1 + (wrap64 (Int.tdiv bt565.1 8)))) = 3 then (spec_l1Cur_clue.j0 k true s0_0 bt571.2.1 bt571.2.2 (wrap64 (bt562.1 + (wrap64 (Int.tdiv bt565.1 8)))) 0 (wrap64 (bt568.1 - (wrap64 (Int.tdiv bt571.1 8))))) else ((spec_l1Cur_one.f s0_0 bt571.2.1 bt571.2.2 10).bind fun bt575 => (spec_l1Cur_clue.j0 k bt575.1 s0_0 bt575.2.1 bt575.2.2 (wrap64 (bt562.1 + (wrap64 (Int.tdiv bt565.1 8)))) 0 (wrap64 (bt568.1 - (wrap64 (Int.tdiv bt571.1 8)))))))))))
set_option maxHeartbeats 8000000 in
set_option maxRecDepth 100000 in
theorem spec_l1Cur_clue.calls (k : Nat) (g : Nat) (s0_0 : List Int) (s0_1 : Int) (s0_2 : Int) (r1 : Int) (r2 : Int) (r3 : Int) (r4 : Int) (r5 : Int) (w0 w : World) (hI : IsS81 w0 w g s0_0 s0_1 s0_2) (hB : Below w0.heap.size w0 w) (h : spec_l1Cur_clue.f k s0_0 s0_1 s0_2 = some (r1, r2, r3, r4, r5)) :
    Calls Try.prog 60 #[.pointer (some ⟨g, 0, none⟩)] w fun e w' => e = .returned (.agg #[.int .i64 r1, .int .i64 r2, .int .i64 r3]) ∧ IsS81 w0 w' g s0_0 r4 r5 ∧ Below w0.heap.size w0 w' ∧ KeepBut w w' g none := by
 have hu28 := Try.underlying28
 have HI0 := Aside0.mk hI
 have HK := Aside0.mk (KeepBut.refl w g none)
 have HL := Aside0.mk hB.size
 clear hI
 have HW0 := Aside0.mk hB.size
 have HB := Aside0.mk hB
 clear hB
 have H : ((spec_l1Cur_pick.f s0_0 s0_1 s0_2 5).bind fun bt562 => ((spec_l1Cur_pick.f s0_0 bt562.2.1 bt562.2.2 9).bind fun bt565 => ((spec_l1Cur_pick.f s0_0 bt565.2.1 bt565.2.2 12).bind fun bt568 => ((spec_l1Cur_pick.f s0_0 bt568.2.1 bt568.2.2 9).bind fun bt571 => (if (wrap64 (bt562.1 + (wrap64 (Int.tdiv bt565.1 8)))) < 2 then (spec_l1Cur_clue.j0 k true s0_0 bt571.2.1 bt571.2.2 (wrap64 (bt562.1 + (wrap64 (Int.tdiv bt565.1 8)))) 0 (wrap64 (bt568.1 - (wrap64 (Int.tdiv bt571.1 8))))) else (if (wrap64 (bt562.1 + (wrap64 (Int.tdiv bt565.1 8)))) = 3 then (spec_l1Cur_clue.j0 k true s0_0 bt571.2.1 bt571.2.2 (wrap64 (bt562.1 + (wrap64 (Int.tdiv bt565.1 8)))) 0 (wrap64 (bt568.1 - (wrap64 (Int.tdiv bt571.1 8))))) else ((spec_l1Cur_one.f s0_0 bt571.2.1 bt571.2.2 10).bind fun bt575 => (spec_l1Cur_clue.j0 k bt575.1 s0_0 bt575.2.1 bt575.2.2 (wrap64 (bt562.1 + (wrap64 (Int.tdiv bt565.1 8)))) 0 (wrap64 (bt568.1 - (wrap64 (Int.tdiv bt571.1 8)))))))))))) = some (r1, r2, r3, r4, r5) := h
 clear h
 replace H := bindS H; obtain ⟨⟨t562, t563, t564⟩, A2, H⟩ := H
 replace H := bindS H; obtain ⟨⟨t565, t566, t567⟩, A3, H⟩ := H
 replace H := bindS H; obtain ⟨⟨t568, t569, t570⟩, A4, H⟩ := H
 replace H := bindS H; obtain ⟨⟨t571, t572, t573⟩, A5, H⟩ := H
 have HC6 := Aside0.mk H
 clear H
 go_enter Try.func60, Try.ntmps60
 go_upto_region 2 with (first | ((with_reducible refine gate_dst (N := 2) rfl ?_); refine boxP (N := 2) (cs := #[.int .i64 0, .int .i64 0, .int .i64 0]) (t := 28) (h := ?_); intro gb1 hg w7 hbox hb; replace HB := IsS81.kbw HB HI0 hb; have BK1 := Aside0.mk (hbox); have GW1 := gwk HK hg; have GE1 := gek HW0 (gwk HK hg); replace HK := kkb HK hb; have NB0_1 := IsS81.nl HI0 hg; have NB1_0 := ns (IsS81.nl HI0 hg); replace HI0 := IsS81.kb HI0 hb; clear hb hbox hg) | ((with_reducible refine gate_callee (f := 58) rfl ?_); refine goK (some 5) Try.func58 #[.pointer (some ⟨g, 0, none⟩), .int .i64 5] ?_; (with_reducible refine (spec_l1Cur_pick.calls g s0_0 s0_1 s0_2 5 t562 t563 t564 w0 _ ?side1 ?side2 A2.out).mono ?_); (case side1 => exact IsS81.w HI0); (case side2 => exact IsS81.bw HB HI0); rintro e w8 ⟨rfl, hi, hb, hk⟩; refine ⟨_, rfl, ?_⟩; replace BK1 := kbk BK1 NB1_0 hk; replace HK := kkt HK hk; replace HB := Aside0.mk (hb); replace HI0 := Aside0.mk (hi); (try clear hb); (try clear hk); (try clear hi)) | ((with_reducible refine gate_callee (f := 58) rfl ?_); refine goK (some 7) Try.func58 #[.pointer (some ⟨g, 0, none⟩), .int .i64 9] ?_; (with_reducible refine (spec_l1Cur_pick.calls g s0_0 t563 t564 9 t565 t566 t567 w0 _ ?side1 ?side2 A3.out).mono ?_); (case side1 => exact IsS81.w HI0); (case side2 => exact IsS81.bw HB HI0); rintro e w9 ⟨rfl, hi, hb, hk⟩; refine ⟨_, rfl, ?_⟩; replace BK1 := kbk BK1 NB1_0 hk; replace HK := kkt HK hk; replace HB := Aside0.mk (hb); replace HI0 := Aside0.mk (hi); (try clear hb); (try clear hk); (try clear hi)) | ((with_reducible refine gate_callee (f := 58) rfl ?_); refine goK (some 11) Try.func58 #[.pointer (some ⟨g, 0, none⟩), .int .i64 12] ?_; (with_reducible refine (spec_l1Cur_pick.calls g s0_0 t566 t567 12 t568 t569 t570 w0 _ ?side1 ?side2 A4.out).mono ?_); (case side1 => exact IsS81.w HI0); (case side2 => exact IsS81.bw HB HI0); rintro e w10 ⟨rfl, hi, hb, hk⟩; refine ⟨_, rfl, ?_⟩; replace BK1 := kbk BK1 NB1_0 hk; replace HK := kkt HK hk; replace HB := Aside0.mk (hb); replace HI0 := Aside0.mk (hi); (try clear hb); (try clear hk); (try clear hi)) | ((with_reducible refine gate_callee (f := 58) rfl ?_); refine goK (some 13) Try.func58 #[.pointer (some ⟨g, 0, none⟩), .int .i64 9] ?_; (with_reducible refine (spec_l1Cur_pick.calls g s0_0 t569 t570 9 t571 t572 t573 w0 _ ?side1 ?side2 A5.out).mono ?_); (case side1 => exact IsS81.w HI0); (case side2 => exact IsS81.bw HB HI0); rintro e w11 ⟨rfl, hi, hb, hk⟩; refine ⟨_, rfl, ?_⟩; replace BK1 := kbk BK1 NB1_0 hk; replace HK := kkt HK hk; replace HB := Aside0.mk (hb); replace HI0 := Aside0.mk (hi); (try clear hb); (try clear hk); (try clear hi)) | ((with_reducible refine gate_dst (N := 3) rfl ?_); refine boxP (N := 3) (cs := #[.int .i64 0, .int .i64 0, .int .i64 0]) (t := 28) (h := ?_); intro gb2 hg w12 hbox hb; replace HB := IsS81.kbw HB HI0 hb; have BK2 := Aside0.mk (hbox); have GW2 := gwk HK hg; have GE2 := gek HW0 (gwk HK hg); replace HK := kkb HK hb; obtain ⟨NB1_2, NB2_1⟩ := nv1 hg BK1; replace BK1 := kb BK1 hb; have NB0_2 := IsS81.nl HI0 hg; have NB2_0 := ns (IsS81.nl HI0 hg); replace HI0 := IsS81.kb HI0 hb; clear hb hbox hg; have hnb13 := up2 NB2_1 NB2_0; obtain ⟨hcz15_0, hcz15_1, hcz15_2, hfz15_0, hfz15_1, hfz15_2⟩ := kc3 BK2))
 (try simp only [Act.put, List.setIfInBounds_toArray, List.set_cons_zero, List.set_cons_succ])
 go_cut [28] (fun v28 wc => ∃ (kq : Nat) (x28_5 : Bool) (x1001_5 : Int) (x1002_5 : Int), v28 = .bool x28_5 ∧ Aside0 (spec_l1Cur_clue.j0 kq x28_5 s0_0 x1001_5 x1002_5 (wrap64 (t562 + (wrap64 (Int.tdiv t565 8)))) 0 (wrap64 (t568 - (wrap64 (Int.tdiv t571 8)))) = some (r1, r2, r3, r4, r5)) ∧ Aside0 (kq ≤ k) ∧ Aside0 (wc.heap[gb1]? = some (.cells #[.int .i64 0, .int .i64 0, .int .i64 0] 28 (0, 0))) ∧ Aside0 (wc.heap[gb2]? = some (.cells #[.int .i64 (wrap64 (t562 + (wrap64 (Int.tdiv t565 8)))), .int .i64 0, .int .i64 (wrap64 (t568 - (wrap64 (Int.tdiv t571 8))))] 28 (0, 0))) ∧ Aside0 (IsS81 w0 wc g s0_0 x1001_5 x1002_5) ∧ Aside0 (KeepBut w wc g none) ∧ Aside0 (Below w0.heap.size w0 wc))
 case first =>
  have H := HC6.out
  clear HC6
  replace H := iteC H; rcases H with ⟨c16, H⟩ | ⟨c16, H⟩
  ·
   have c16b0 : decide ((wrap64 (t562 + (wrap64 (Int.tdiv t565 8)))) < 2) = true := decide_eq_true c16
   clear c16
   (first | rw [c16b0] | (simp only [i64_w, i32_w]; rw [c16b0]) | skip)
   have H' := Aside0.mk H
   clear H
   have hnb17 := up2 NB2_1 NB2_0
   obtain ⟨hcz19_0, hcz19_1, hcz19_2, hfz19_0, hfz19_1, hfz19_2⟩ := kc3 BK2
   go_wp2
   go_meet
   case rel => exact ⟨_, (true), (t572), (t573), (by first | rfl | (simp; done) | (simp [*]; done)), H', ⟨by first | omega | exact Nat.le_refl _⟩, ⟨bt BK1⟩, ⟨bt BK2⟩, ⟨(IsS81.w HI0)⟩, ⟨(kk HK)⟩, ⟨(IsS81.bw HB HI0)⟩⟩
  have c16b0 : decide ((wrap64 (t562 + (wrap64 (Int.tdiv t565 8)))) < 2) = false := decide_eq_false c16
  clear c16
  (first | rw [c16b0] | (simp only [i64_w, i32_w]; rw [c16b0]) | skip)
  replace H := iteC H; rcases H with ⟨c20, H⟩ | ⟨c20, H⟩
  ·
   have c20b0 : ((wrap64 (t562 + (wrap64 (Int.tdiv t565 8)))) == 3) = true := beq_iff_eq.mpr c20
   have c20b1 : ((wrap64 (t562 + (wrap64 (Int.tdiv t565 8)))) != 3) = false := bne_eq_false_iff_eq.mpr c20
   clear c20
   have H' := Aside0.mk H
   clear H
   have hnb21 := up2 NB2_1 NB2_0
   obtain ⟨hcz23_0, hcz23_1, hcz23_2, hfz23_0, hfz23_1, hfz23_2⟩ := kc3 BK2
   go_wp2
   go_meet
   case rel => exact ⟨_, (true), (t572), (t573), (by first | rfl | (simp; done) | (simp [*]; done)), H', ⟨by first | omega | exact Nat.le_refl _⟩, ⟨bt BK1⟩, ⟨bt BK2⟩, ⟨(IsS81.w HI0)⟩, ⟨(kk HK)⟩, ⟨(IsS81.bw HB HI0)⟩⟩
  have c20b0 : ((wrap64 (t562 + (wrap64 (Int.tdiv t565 8)))) == 3) = false := beq_eq_false_iff_ne.mpr c20
  have c20b1 : ((wrap64 (t562 + (wrap64 (Int.tdiv t565 8)))) != 3) = true := bne_iff_ne.mpr c20
  replace H := bindS H; obtain ⟨⟨t575, t576, t577⟩, A24, H⟩ := H
  have H' := Aside0.mk H
  clear H
  have hnb25 := up2 NB2_1 NB2_0
  obtain ⟨hcz27_0, hcz27_1, hcz27_2, hfz27_0, hfz27_1, hfz27_2⟩ := kc3 BK2
  go_wp2_with (first | (go_at_call 54; (with_reducible refine (spec_l1Cur_one.calls g s0_0 t572 t573 10 t575 t576 t577 w0 _ ?side1 ?side2 A24.out).mono ?_); (case side1 => exact IsS81.w HI0); (case side2 => exact IsS81.bw HB HI0); rintro e w28 ⟨rfl, hi, hb, hk⟩; replace BK1 := Aside0.mk (KeepBut.blk hk (g' := gb1) (o := .cells #[.int .i64 0, .int .i64 0, .int .i64 0] 28 (0, 0)) (bt BK1) NB1_0.out (by simp)); replace BK2 := Aside0.mk (KeepBut.blk hk (g' := gb2) (o := .cells #[.int .i64 (wrap64 (t562 + (wrap64 (Int.tdiv t565 8)))), .int .i64 0, .int .i64 (wrap64 (t568 - (wrap64 (Int.tdiv t571 8))))] 28 (0, 0)) (bt BK2) NB2_0.out (by simp)); replace HK := kkt HK hk; replace HB := Aside0.mk (hb); replace HI0 := Aside0.mk (hi); (try clear hb); (try clear hk); (try clear hi)))
  go_meet
  case rel => exact ⟨_, (t575), (t576), (t577), (by first | rfl | (simp; done) | (simp [*]; done)), H', ⟨by first | omega | exact Nat.le_refl _⟩, ⟨bk BK1⟩, ⟨bk BK2⟩, ⟨(IsS81.w HI0)⟩, ⟨(kk HK)⟩, ⟨(IsS81.bw HB HI0)⟩⟩
 case rest =>
  clear HC6
  try clear hcz15_0
  try clear hcz15_1
  try clear hcz15_2
  try clear hfz15_0
  try clear hfz15_1
  try clear hfz15_2
  obtain ⟨kq, x28_5, x1001_5, x1002_5, rfl, HA, HJ5, BK1, BK2, HI0, HK, HB⟩ := hcut
  cases kq with
  | zero => exact absurd HA.out (by simp [spec_l1Cur_clue.j0])
  | succ kj5 =>
   have H := HA.out
   clear HA
   simp only [spec_l1Cur_clue.j0] at H
   have HC29 := Aside0.mk H
   clear H
   go_upto_if 28 with (fail)
   go_cut [] (fun wc => ∃ (kq : Nat) (x1001_28 : Int) (x1002_28 : Int) (x575001_28 : Int), Aside0 (spec_l1Cur_clue.j1 kq s0_0 x1001_28 x1002_28 (wrap64 (t562 + (wrap64 (Int.tdiv t565 8)))) x575001_28 (wrap64 (t568 - (wrap64 (Int.tdiv t571 8)))) = some (r1, r2, r3, r4, r5)) ∧ Aside0 (kq ≤ kj5) ∧ Aside0 (wc.heap[gb1]? = some (.cells #[.int .i64 0, .int .i64 0, .int .i64 0] 28 (0, 0))) ∧ Aside0 (wc.heap[gb2]? = some (.cells #[.int .i64 (wrap64 (t562 + (wrap64 (Int.tdiv t565 8)))), .int .i64 x575001_28, .int .i64 (wrap64 (t568 - (wrap64 (Int.tdiv t571 8))))] 28 (0, 0))) ∧ Aside0 (IsS81 w0 wc g s0_0 x1001_28 x1002_28) ∧ Aside0 (KeepBut w wc g none) ∧ Aside0 (Below w0.heap.size w0 wc))
   case first =>
    have H := HC29.out
    clear HC29
    replace H := iteB H; rcases H with ⟨rfl, H⟩ | ⟨rfl, H⟩
    ·
     replace H := bindS H; obtain ⟨⟨t578, t579, t580⟩, A31, H⟩ := H
     replace H := bindS H; obtain ⟨⟨t581, t582, t583⟩, A32, H⟩ := H
     have H' := Aside0.mk H
     clear H
     go_wp2_with (first | ((with_reducible refine gate_callee (f := 58) rfl ?_); refine goK (some 30) Try.func58 #[.pointer (some ⟨g, 0, none⟩), .int .i64 20] ?_; (with_reducible refine (spec_l1Cur_pick.calls g s0_0 x1001_5 x1002_5 20 t578 t579 t580 w0 _ ?side1 ?side2 A31.out).mono ?_); (case side1 => exact IsS81.w HI0); (case side2 => exact IsS81.bw HB HI0); rintro e w33 ⟨rfl, hi, hb, hk⟩; refine ⟨_, rfl, ?_⟩; replace BK1 := kbk BK1 NB1_0 hk; replace BK2 := kbk BK2 NB2_0 hk; replace HK := kkt HK hk; replace HB := Aside0.mk (hb); replace HI0 := Aside0.mk (hi); (try clear hb); (try clear hk); (try clear hi)) | ((with_reducible refine gate_callee (f := 58) rfl ?_); refine goK (some 33) Try.func58 #[.pointer (some ⟨g, 0, none⟩), .int .i64 9] ?_; (with_reducible refine (spec_l1Cur_pick.calls g s0_0 t579 t580 9 t581 t582 t583 w0 _ ?side1 ?side2 A32.out).mono ?_); (case side1 => exact IsS81.w HI0); (case side2 => exact IsS81.bw HB HI0); rintro e w34 ⟨rfl, hi, hb, hk⟩; refine ⟨_, rfl, ?_⟩; replace BK1 := kbk BK1 NB1_0 hk; replace BK2 := kbk BK2 NB2_0 hk; replace HK := kkt HK hk; replace HB := Aside0.mk (hb); replace HI0 := Aside0.mk (hi); (try clear hb); (try clear hk); (try clear hi); have hnb35 := up2 NB2_1 NB2_0; have hcz37_0 : w34.cell? ⟨gb2, 0, none⟩ = some (.int .i64 (wrap64 (t562 + (wrap64 (Int.tdiv t565 8))))) := bc BK2 0; have hcz37_1 : w34.cell? ⟨gb2, 1, none⟩ = some (.int .i64 0) := bc BK2 1; have hcz37_2 : w34.cell? ⟨gb2, 2, none⟩ = some (.int .i64 (wrap64 (t568 - (wrap64 (Int.tdiv t571 8))))) := bc BK2 2; have hfz37_0 := blk_frozen BK2.out 0; have hfz37_1 := blk_frozen BK2.out 1; have hfz37_2 := blk_frozen BK2.out 2))
     go_meet
     case rel => exact ⟨_, (t582), (t583), (wrap64 ((wrap64 (1 + t578)) - (wrap64 (Int.tdiv t581 8)))), H', ⟨by have := HJ5.out; first | omega | exact Nat.le_refl _⟩, ⟨bf BK1 NB1_2⟩, ⟨bt BK2⟩, ⟨(IsS81.w HI0)⟩, ⟨(kk HK)⟩, ⟨(IsS81.bw HB HI0)⟩⟩
    have H' := Aside0.mk H
    clear H
    go_wp2
    go_meet
    case rel => exact ⟨_, (x1001_5), (x1002_5), (0), H', ⟨by have := HJ5.out; first | omega | exact Nat.le_refl _⟩, ⟨bk BK1⟩, ⟨bk BK2⟩, ⟨(IsS81.w HI0)⟩, ⟨(kk HK)⟩, ⟨(IsS81.bw HB HI0)⟩⟩
   case rest =>
    clear HC29
    try clear hcz15_0
    try clear hcz15_1
    try clear hcz15_2
    try clear hfz15_0
    try clear hfz15_1
    try clear hfz15_2
    obtain ⟨kq, x1001_28, x1002_28, x575001_28, HA, HJ28, BK1, BK2, HI0, HK, HB⟩ := hcut
    cases kq with
    | zero => exact absurd HA.out (by simp [spec_l1Cur_clue.j1])
    | succ kj28 =>
     have H := HA.out
     clear HA
     simp only [spec_l1Cur_clue.j1] at H
     replace H := iteC H; rcases H with ⟨c38, H⟩ | ⟨c38, H⟩
     ·
      have c38b0 : ((wrap64 (t562 + (wrap64 (Int.tdiv t565 8)))) == 3) = true := beq_iff_eq.mpr c38
      have c38b1 : ((wrap64 (t562 + (wrap64 (Int.tdiv t565 8)))) != 3) = false := bne_eq_false_iff_eq.mpr c38
      clear c38
      replace H := bindS H; obtain ⟨⟨t584, t585, t586⟩, A39, H⟩ := H
      replace H := bindS H; obtain ⟨⟨t587, t588, t589⟩, A40, H⟩ := H
      simp only [Option.some.injEq, Prod.mk.injEq] at H
      obtain ⟨rfl, rfl, rfl, rfl, rfl⟩ := H
      have hnb41 := up2 NB2_1 NB2_0
      have hcz43_0 : wc.cell? ⟨gb2, 0, none⟩ = some (.int .i64 (wrap64 (t562 + (wrap64 (Int.tdiv t565 8))))) := bc BK2 0
      have hcz43_1 : wc.cell? ⟨gb2, 1, none⟩ = some (.int .i64 x575001_28) := bc BK2 1
      have hcz43_2 : wc.cell? ⟨gb2, 2, none⟩ = some (.int .i64 (wrap64 (t568 - (wrap64 (Int.tdiv t571 8))))) := bc BK2 2
      have hfz43_0 := blk_frozen BK2.out 0
      have hfz43_1 := blk_frozen BK2.out 1
      have hfz43_2 := blk_frozen BK2.out 2
      go_wp2_with (first | ((with_reducible refine gate_callee (f := 58) rfl ?_); refine goK (some 41) Try.func58 #[.pointer (some ⟨g, 0, none⟩), .int .i64 10] ?_; (with_reducible refine (spec_l1Cur_pick.calls g s0_0 x1001_28 x1002_28 10 t584 t585 t586 w0 _ ?side1 ?side2 A39.out).mono ?_); (case side1 => exact IsS81.w HI0); (case side2 => exact IsS81.bw HB HI0); rintro e w44 ⟨rfl, hi, hb, hk⟩; refine ⟨_, rfl, ?_⟩; replace BK1 := kbk BK1 NB1_0 hk; replace BK2 := kbk BK2 NB2_0 hk; replace HK := kkt HK hk; replace HB := Aside0.mk (hb); replace HI0 := Aside0.mk (hi); (try clear hb); (try clear hk); (try clear hi); have hcz45_0 : w44.cell? ⟨gb2, 0, none⟩ = some (.int .i64 (wrap64 (t562 + (wrap64 (Int.tdiv t565 8))))) := bc BK2 0; have hcz45_1 : w44.cell? ⟨gb2, 1, none⟩ = some (.int .i64 x575001_28) := bc BK2 1; have hcz45_2 : w44.cell? ⟨gb2, 2, none⟩ = some (.int .i64 (wrap64 (t568 - (wrap64 (Int.tdiv t571 8))))) := bc BK2 2; have hfz45_0 := blk_frozen BK2.out 0; have hfz45_1 := blk_frozen BK2.out 1; have hfz45_2 := blk_frozen BK2.out 2) | ((with_reducible refine gate_callee (f := 58) rfl ?_); refine goK (some 45) Try.func58 #[.pointer (some ⟨g, 0, none⟩), .int .i64 3] ?_; (with_reducible refine (spec_l1Cur_pick.calls g s0_0 t585 t586 3 t587 t588 t589 w0 _ ?side1 ?side2 A40.out).mono ?_); (case side1 => exact IsS81.w HI0); (case side2 => exact IsS81.bw HB HI0); rintro e w46 ⟨rfl, hi, hb, hk⟩; refine ⟨_, rfl, ?_⟩; replace BK1 := Aside0.mk (KeepBut.blk hk (g' := gb1) (o := .cells #[.int .i64 0, .int .i64 0, .int .i64 0] 28 (0, 0)) (bf BK1 NB1_2) NB1_0.out (by simp)); replace BK2 := Aside0.mk (KeepBut.blk hk (g' := gb2) (o := .cells #[.int .i64 (wrap64 (t562 + (wrap64 (Int.tdiv t565 8)))), .int .i64 (wrap64 (1 + t584)), .int .i64 (wrap64 (t568 - (wrap64 (Int.tdiv t571 8))))] 28 (0, 0)) (bt BK2) NB2_0.out (by simp)); replace HK := kkt HK hk; replace HB := Aside0.mk (hb); replace HI0 := Aside0.mk (hi); (try clear hb); (try clear hk); (try clear hi); have hcz47_0 : w46.cell? ⟨gb2, 0, none⟩ = some (.int .i64 (wrap64 (t562 + (wrap64 (Int.tdiv t565 8))))) := bc BK2 0; have hcz47_1 : w46.cell? ⟨gb2, 1, none⟩ = some (.int .i64 (wrap64 (1 + t584))) := bc BK2 1; have hcz47_2 : w46.cell? ⟨gb2, 2, none⟩ = some (.int .i64 (wrap64 (t568 - (wrap64 (Int.tdiv t571 8))))) := bc BK2 2; have hfz47_0 := blk_frozen BK2.out 0; have hfz47_1 := blk_frozen BK2.out 1; have hfz47_2 := blk_frozen BK2.out 2; have hnb48 := up1 NB1_0; obtain ⟨hcz49_0, hcz49_1, hcz49_2, hfz49_0, hfz49_1, hfz49_2⟩ := kc3 BK1))
      refine bodyPost_ret (results_cell_row rfl _ _ gb1 28 #[.int .i64 (wrap64 (t562 + (wrap64 (Int.tdiv t565 8)))), .int .i64 (wrap64 (1 + t584)), .int .i64 t587] (0, 0) _ rfl (bt BK1) Try.underlying28 rfl (by kernel_rfl)) rfl ?_
      exact ⟨eqR, (IsS81.w HI0), (IsS81.bw HB HI0), (kk HK)⟩
     have c38b0 : ((wrap64 (t562 + (wrap64 (Int.tdiv t565 8)))) == 3) = false := beq_eq_false_iff_ne.mpr c38
     have c38b1 : ((wrap64 (t562 + (wrap64 (Int.tdiv t565 8)))) != 3) = true := bne_iff_ne.mpr c38
     simp only [Option.some.injEq, Prod.mk.injEq] at H
     obtain ⟨rfl, rfl, rfl, rfl, rfl⟩ := H
     have hnb50 := up2 NB2_1 NB2_0
     have hcz52_0 : wc.cell? ⟨gb2, 0, none⟩ = some (.int .i64 (wrap64 (t562 + (wrap64 (Int.tdiv t565 8))))) := bc BK2 0
     have hcz52_1 : wc.cell? ⟨gb2, 1, none⟩ = some (.int .i64 x575001_28) := bc BK2 1
     have hcz52_2 : wc.cell? ⟨gb2, 2, none⟩ = some (.int .i64 (wrap64 (t568 - (wrap64 (Int.tdiv t571 8))))) := bc BK2 2
     have hfz52_0 := blk_frozen BK2.out 0
     have hfz52_1 := blk_frozen BK2.out 1
     have hfz52_2 := blk_frozen BK2.out 2
     have hnb53 := up1 NB1_0
     obtain ⟨hcz54_0, hcz54_1, hcz54_2, hfz54_0, hfz54_1, hfz54_2⟩ := kc3 BK1
     go_wp2
     refine bodyPost_ret (results_cell_row rfl _ _ gb1 28 #[.int .i64 (wrap64 (t562 + (wrap64 (Int.tdiv t565 8)))), .int .i64 x575001_28, .int .i64 (wrap64 (t568 - (wrap64 (Int.tdiv t571 8))))] (0, 0) _ rfl (bt BK1) Try.underlying28 rfl (by kernel_rfl)) rfl ?_
     exact ⟨eqR, (IsS81.w HI0), (IsS81.bw HB HI0), (kk HK)⟩

/-! ### spec_l1Cur_surePuzzle: function 71 -/
def spec_l1Cur_surePuzzle.f (k : Nat) (s0_0 : List Int) (s0_1 : Int) (s0_2 : Int) (a1 : Int) : Option ((List (S28)) × Int × Int) := (spec_l1Cur_hidden.f s0_0 s0_1 s0_2).bind fun bt591 => ((spec_l1Cur_pick.f s0_0 bt591.2.2.1 bt591.2.2.2 (wrap64 (a1 + 1))).bind fun bt595 => ((spec_l1Cur_pick.f s0_0 bt595.2.1 bt595.2.2 10000).bind fun bt598 => ((spec_MakePuzzle.f k bt591.1 bt591.2.1 bt595.1 bt598.1).bind fun bt601 => (some (bt601.1, bt598.2.1, bt598.2.2)))))
set_option maxHeartbeats 8000000 in
set_option maxRecDepth 100000 in
theorem spec_l1Cur_surePuzzle.calls (k : Nat) (g : Nat) (s0_0 : List Int) (s0_1 : Int) (s0_2 : Int) (a1 : Int) (r1 : List (S28)) (r2 : Int) (r3 : Int) (w0 w : World) (hI : IsS81 w0 w g s0_0 s0_1 s0_2) (hB : Below w0.heap.size w0 w) (h : spec_l1Cur_surePuzzle.f k s0_0 s0_1 s0_2 a1 = some (r1, r2, r3)) :
    Calls Try.prog 71 #[.pointer (some ⟨g, 0, none⟩), .int .i64 a1] w fun e w' => ∃ v0_ : Value, e = .returned (.agg #[v0_]) ∧ Kd.R k28 28 w' w.heap.size (fun _ => True) v0_ r1 ∧ IsS81 w0 w' g s0_0 r2 r3 ∧ Below w0.heap.size w0 w' ∧ KeepBut w w' g none := by
 have hu26 := Try.underlying26
 have HI0 := Aside0.mk hI
 have HK := Aside0.mk (KeepBut.refl w g none)
 have HL := Aside0.mk hB.size
 clear hI
 have HW0 := Aside0.mk hB.size
 have HB := Aside0.mk hB
 clear hB
 have H : ((spec_l1Cur_hidden.f s0_0 s0_1 s0_2).bind fun bt591 => ((spec_l1Cur_pick.f s0_0 bt591.2.2.1 bt591.2.2.2 (wrap64 (a1 + 1))).bind fun bt595 => ((spec_l1Cur_pick.f s0_0 bt595.2.1 bt595.2.2 10000).bind fun bt598 => ((spec_MakePuzzle.f k bt591.1 bt591.2.1 bt595.1 bt598.1).bind fun bt601 => (some (bt601.1, bt598.2.1, bt598.2.2)))))) = some (r1, r2, r3) := h
 clear h
 replace H := bindS H; obtain ⟨⟨t591, t592, t593, t594⟩, A3, H⟩ := H
 replace H := bindS H; obtain ⟨⟨t595, t596, t597⟩, A4, H⟩ := H
 replace H := bindS H; obtain ⟨⟨t598, t599, t600⟩, A5, H⟩ := H
 replace H := bindS H; obtain ⟨⟨t601, t604⟩, A6, H⟩ := H
 simp only [Option.some.injEq, Prod.mk.injEq] at H
 obtain ⟨rfl, rfl, rfl⟩ := H
 go_enter Try.func71, Try.ntmps71
 go_wp2_with (first | ((with_reducible refine gate_dst (N := 4) rfl ?_); refine boxP (N := 4) (cs := #[.slice none 0 0]) (t := 26) (h := ?_); intro gb1 hg w7 hbox hb; replace HB := IsS81.kbw HB HI0 hb; have BK1 := Aside0.mk (hbox); have GW1 := gwk HK hg; have GE1 := gek HW0 (gwk HK hg); replace HK := kkb HK hb; have NB0_1 := IsS81.nl HI0 hg; have NB1_0 := ns (IsS81.nl HI0 hg); replace HI0 := IsS81.kb HI0 hb; clear hb hbox hg) | ((with_reducible refine gate_callee (f := 57) rfl ?_); refine goK (some 9) Try.func57 #[.pointer (some ⟨g, 0, none⟩)] ?_; (with_reducible refine (spec_l1Cur_hidden.calls g s0_0 s0_1 s0_2 t591 t592 t593 t594 w0 _ ?side1 ?side2 A3.out).mono ?_); (case side1 => exact IsS81.w HI0); (case side2 => exact IsS81.bw HB HI0); rintro e w8 ⟨rfl, hi, hb, hk⟩; refine ⟨_, rfl, ?_⟩; replace BK1 := kbk BK1 NB1_0 hk; replace HK := kkt HK hk; replace HB := Aside0.mk (hb); replace HI0 := Aside0.mk (hi); (try clear hb); (try clear hk); (try clear hi)) | ((with_reducible refine gate_callee (f := 58) rfl ?_); refine goK (some 13) Try.func58 #[.pointer (some ⟨g, 0, none⟩), .int .i64 (wrap64 (a1 + 1))] ?_; (with_reducible refine (spec_l1Cur_pick.calls g s0_0 t593 t594 (wrap64 (a1 + 1)) t595 t596 t597 w0 _ ?side1 ?side2 A4.out).mono ?_); (case side1 => exact IsS81.w HI0); (case side2 => exact IsS81.bw HB HI0); rintro e w9 ⟨rfl, hi, hb, hk⟩; refine ⟨_, rfl, ?_⟩; replace BK1 := kbk BK1 NB1_0 hk; replace HK := kkt HK hk; replace HB := Aside0.mk (hb); replace HI0 := Aside0.mk (hi); (try clear hb); (try clear hk); (try clear hi)) | ((with_reducible refine gate_callee (f := 58) rfl ?_); refine goK (some 15) Try.func58 #[.pointer (some ⟨g, 0, none⟩), .int .i64 10000] ?_; (with_reducible refine (spec_l1Cur_pick.calls g s0_0 t596 t597 10000 t598 t599 t600 w0 _ ?side1 ?side2 A5.out).mono ?_); (case side1 => exact IsS81.w HI0); (case side2 => exact IsS81.bw HB HI0); rintro e w10 ⟨rfl, hi, hb, hk⟩; refine ⟨_, rfl, ?_⟩; replace BK1 := kbk BK1 NB1_0 hk; replace HK := kkt HK hk; replace HB := Aside0.mk (hb); replace HI0 := Aside0.mk (hi); (try clear hb); (try clear hk); (try clear hi)) | ((with_reducible refine gate_callee (f := 6) rfl ?_); refine goK (some 16) Try.func6 #[.agg #[.int .i64 t591, .int .i64 t592], .int .i64 t595, .int .i64 t598] ?_; (with_reducible refine (spec_MakePuzzle.calls k t591 t592 t595 t598 t601 t604 _ A6.out).mono ?_); rintro e w11 ⟨v602, rfl, ho0, hb⟩; refine ⟨_, rfl, ?_⟩; have HO603 := Aside0.mk (Kd.R_lower ho0 (keep_size (w := w) (g := g) (row := none) (kk HK))); replace BK1 := kb BK1 hb; replace HK := kkb HK hb; replace HB := IsS81.kbw HB HI0 hb; replace HI0 := IsS81.kb HI0 hb; (try clear hb); (try clear hk); (try clear hi); (try clear ho0)) | ((with_reducible refine gate_dst (N := 5) rfl ?_); refine boxP (N := 5) (cs := #[.slice none 0 0]) (t := 26) (h := ?_); intro gb2 hg w12 hbox hb; replace HO603 := ko HO603 hb; replace HB := IsS81.kbw HB HI0 hb; have BK2 := Aside0.mk (hbox); have GW2 := gwk HK hg; have GE2 := gek HW0 (gwk HK hg); replace HK := kkb HK hb; obtain ⟨NB1_2, NB2_1⟩ := nv1 hg BK1; replace BK1 := kb BK1 hb; have NB0_2 := IsS81.nl HI0 hg; have NB2_0 := ns (IsS81.nl HI0 hg); replace HI0 := IsS81.kb HI0 hb; clear hb hbox hg; obtain ⟨Ao13, co13, eo13⟩ := Kd.R_slice HO603.out; subst eo13; have hnb14 := up2 NB2_1 NB2_0; obtain ⟨hcz16_0, hfz16_0⟩ := kc1 BK2; have hnb17 := up1 NB1_0; obtain ⟨hcz18_0, hfz18_0⟩ := kc1 BK1))
 refine bodyPost_ret (results_cell_row rfl _ _ gb1 26 #[.slice Ao13 t601.length co13] (0, 0) _ rfl (bt BK1) Try.underlying26 rfl (by kernel_rfl)) rfl ?_
 exact ⟨_, eqR, by (with_reducible repeat (first | apply Kd.R_alloc | apply Kd.R_drewN | apply Kd.R_drew)); exact Kd.R_mono (Kd.R_far (p := ⟨gb1, 0, none⟩) (Kd.R_far (p := ⟨gb2, 0, none⟩) (Kd.R_types (Kd.R_types HO603.out BK2.out (by decide)) BK1.out (by decide)) (fun _ hk => hk.1.2) (.slice Ao13 t601.length co13)) (fun _ hk => hk.2) (.slice Ao13 t601.length co13)) (fun _ hk => trivial), (IsS81.w HI0), (IsS81.bw HB HI0), (kk HK)⟩

end Go.Proofs.Ytlpjooijkeadbaa.PH
