/- The document's test of pairs, powers of two, turned pairs, equal pairs: walked. -/
import Derived.Test.YteaghcchalfgmaaNXh
namespace Go.Proofs.Yteaghcchalfgmaa.PAll
open Go.RowKit Go.Proofs.YteaghcchalfgmaaW.PrintWords Go.Proofs.YteaghcchalfgmaaW.PrintLast Go.Proofs.YteaghcchalfgmaaW.PrintMore
open Go.Proofs.Yteaghcchalfgmaa.Nm Ieee
set_option linter.unusedVariables false
set_option linter.unusedSimpArgs false
attribute [local go_sem] run_store_float ext32 ext60 un_neg

set_option maxRecDepth 100000 in
theorem Power_m300 (w : World) :
    Calls Try.prog 27 #[.int .i64 (-300)] w fun e w' => e = .returned (.float .f64 3256102530588868608) ∧ w' = w := by
  go_enter Try.func27, Try.ntmps27
  go_wp2
  go_ret
  exact ⟨by rfl, rfl⟩

set_option maxRecDepth 100000 in
theorem Power_300 (w : World) :
    Calls Try.prog 27 #[.int .i64 (300)] w fun e w' => e = .returned (.float .f64 5958262307011166208) ∧ w' = w := by
  go_enter Try.func27, Try.ntmps27
  go_wp2
  go_ret
  exact ⟨by rfl, rfl⟩

set_option maxRecDepth 100000 in
theorem Power_m80 (w : World) :
    Calls Try.prog 27 #[.int .i64 (-80)] w fun e w' => e = .returned (.float .f64 4246894448610377728) ∧ w' = w := by
  go_enter Try.func27, Try.ntmps27
  go_wp2
  go_ret
  exact ⟨by rfl, rfl⟩

set_option maxRecDepth 100000 in
theorem Power_100 (w : World) :
    Calls Try.prog 27 #[.int .i64 (100)] w fun e w' => e = .returned (.float .f64 5057542381537067008) ∧ w' = w := by
  go_enter Try.func27, Try.ntmps27
  go_wp2
  go_ret
  exact ⟨by rfl, rfl⟩

set_option maxRecDepth 100000 in
theorem Power_301 (w : World) :
    Calls Try.prog 27 #[.int .i64 (301)] w fun e w' => e = .returned (.float .f64 5962765906638536704) ∧ w' = w := by
  go_enter Try.func27, Try.ntmps27
  go_wp2
  go_ret
  exact ⟨by rfl, rfl⟩

/-- is the amount of a float 0, or from 2^-300 to 2^300? -/
def fOk (x : Nat) : Bool := decide (rg x = 0) || decide (3256102530588868608 ≤ rg x ∧ rg x ≤ 5958262307011166208)
theorem fOk_cases (x : Nat) : (rg x = 0 ∧ fOk x = true) ∨ (rg x ≠ 0 ∧ ¬ (3256102530588868608 ≤ rg x) ∧ fOk x = false) ∨ (rg x ≠ 0 ∧ 3256102530588868608 ≤ rg x ∧ ¬ rg x ≤ 5958262307011166208 ∧ fOk x = false) ∨ (rg x ≠ 0 ∧ 3256102530588868608 ≤ rg x ∧ rg x ≤ 5958262307011166208 ∧ fOk x = true) := by
  unfold fOk
  by_cases q : rg x = 0
  · exact .inl ⟨q, by rw [decide_eq_true q]; rfl⟩
  · rw [decide_eq_false q]
    by_cases q1 : 3256102530588868608 ≤ rg x
    · by_cases q2 : rg x ≤ 5958262307011166208
      · exact .inr (.inr (.inr ⟨q, q1, q2, by rw [decide_eq_true ⟨q1, q2⟩]; rfl⟩))
      · exact .inr (.inr (.inl ⟨q, q1, q2, by rw [decide_eq_false (fun e => q2 e.2)]; rfl⟩))
    · exact .inr (.inl ⟨q, q1, by rw [decide_eq_false (fun e => q1 e.1)]; rfl⟩)
/-- What is tested: the amount, or what is no number. -/
theorem amount {x : Nat} (hx : x < 18446744073709551616) : ∃ y, (if sg x = true ∧ 0 < rg x ∧ rg x ≤ 9218868437227405312 then Op.negFloat .f64 x else x) = y ∧ (dOrd y 0 == some .eq) = decide (rg x = 0) ∧
    (dOrd y 3256102530588868608 == some .gt || dOrd y 3256102530588868608 == some .eq) = decide (3256102530588868608 ≤ rg x ∧ rg x ≤ 9218868437227405312) ∧
    (dOrd y 5958262307011166208 == some .lt || dOrd y 5958262307011166208 == some .eq) = decide (rg x ≤ 5958262307011166208) := by
  refine ⟨_, rfl, ?_⟩
  obtain ⟨n1, n2, n3⟩ := neg_rg hx
  by_cases q : sg x = true ∧ 0 < rg x ∧ rg x ≤ 9218868437227405312
  · rw [if_pos q]
    have e : Op.negFloat .f64 x = rg x := by
      rw [q.1] at n2
      have h1 : Op.negFloat .f64 x / 9223372036854775808 % 2 ≠ 1 := by
        intro e
        have : sg (Op.negFloat .f64 x) = true := by unfold sg; rw [e]; rfl
        rw [n2] at this; cases this
      have h2 : Op.negFloat .f64 x < 9223372036854775808 := by omega
      rw [← n1]; exact (rg_small h2).symm
    rw [e]
    exact ⟨by rw [isZ_iff, rg_rg], ge_abs x (by decide), le_abs x (by decide)⟩
  · rw [if_neg q]
    by_cases q0 : rg x = 0
    · have k : Ky x = 0 := ky_zero.2 q0
      refine ⟨isZ_iff x, ?_, ?_⟩
      · show (double.order x _ == some .gt || double.order x _ == some .eq) = _
        rw [order_key (by omega) (by decide), cmp_eq, cmp_gt, k, ky_small (by decide), q0]; rfl
      · show (double.order x _ == some .lt || double.order x _ == some .eq) = _
        rw [order_key (by omega) (by decide), cmp_eq, cmp_lt, k, ky_small (by decide), q0]; rfl
    · by_cases q1 : 9218868437227405312 < rg x
      · refine ⟨isZ_iff x, ?_, ?_⟩
        · show (double.order x _ == some .gt || double.order x _ == some .eq) = _
          rw [order_nan_l q1, decide_eq_false (by omega)]; rfl
        · show (double.order x _ == some .lt || double.order x _ == some .eq) = _
          rw [order_nan_l q1, decide_eq_false (by omega)]; rfl
      · have hs : sg x = false := by
          cases hq : sg x
          · rfl
          · exact absurd ⟨hq, by omega, by omega⟩ q
        have hsm : x = rg x := by
          have : x / 9223372036854775808 % 2 ≠ 1 := by
            intro e
            have : sg x = true := by unfold sg; rw [e]; rfl
            rw [hs] at this; cases this
          exact (rg_small (by omega)).symm
        have := ge_abs x (c := 3256102530588868608) (by decide)
        have h2 := le_abs x (c := 5958262307011166208) (by decide)
        rw [← hsm] at this h2 ⊢
        refine ⟨?_, this, h2⟩
        have := isZ_iff x
        rw [← hsm] at this; exact this

set_option maxHeartbeats 4000000 in
set_option maxRecDepth 100000 in
theorem float_calls (x : Nat) (hx : x < 18446744073709551616) (w : World) :
    Calls Try.prog 48 #[.float .f64 x] w fun e w' => e = .returned (.bool (fOk x)) ∧ w' = w := by
  obtain ⟨y, hy, y1, y2, y3⟩ := amount hx
  have l0 := lt_zero x
  by_cases q : sg x = true ∧ 0 < rg x ∧ rg x ≤ 9218868437227405312
  all_goals
    first | (rw [if_pos q] at hy; rw [decide_eq_true q] at l0) | (rw [if_neg q] at hy; rw [decide_eq_false q] at l0)
    subst hy
    rcases fOk_cases x with ⟨c1, c2⟩ | ⟨c0, c1, c2⟩ | ⟨c0, c1, c3, c2⟩ | ⟨c0, c1, c3, c2⟩
    all_goals rw [c2]
    · rw [decide_eq_true c1] at y1
      go_enter Try.func48, Try.ntmps48
      go_wp2_with (first | (simp only [l0, y1]; try go_simp))
      go_ret
      exact ⟨rfl, rfl⟩
    · rw [decide_eq_false c0] at y1
      rw [decide_eq_false (fun e => c1 e.1)] at y2
      go_enter Try.func48, Try.ntmps48
      go_wp2_with (first | ((with_reducible refine gate_calls (f := 27) ?_); refine (Power_m300 _).mono ?_; rintro e_ w3 ⟨rfl, hw3⟩; obtain rfl := hw3.symm; (try dsimp only)) | (simp only [l0, y1, y2]; try go_simp))
      go_ret
      exact ⟨rfl, rfl⟩
    · rw [decide_eq_false c0] at y1
      rw [decide_eq_false c3] at y3
      by_cases c4 : rg x ≤ 9218868437227405312
      · rw [decide_eq_true ⟨c1, c4⟩] at y2
        go_enter Try.func48, Try.ntmps48
        go_wp2_with (first | ((with_reducible refine gate_calls (f := 27) ?_); refine (Power_m300 _).mono ?_; rintro e_ w3 ⟨rfl, hw3⟩; obtain rfl := hw3.symm; (try dsimp only)) | ((with_reducible refine gate_calls (f := 27) ?_); refine (Power_300 _).mono ?_; rintro e_ w3 ⟨rfl, hw3⟩; obtain rfl := hw3.symm; (try dsimp only)) | (simp only [l0, y1, y2, y3]; try go_simp))
        go_ret
        exact ⟨rfl, rfl⟩
      · rw [decide_eq_false (fun e => c4 e.2)] at y2
        go_enter Try.func48, Try.ntmps48
        go_wp2_with (first | ((with_reducible refine gate_calls (f := 27) ?_); refine (Power_m300 _).mono ?_; rintro e_ w3 ⟨rfl, hw3⟩; obtain rfl := hw3.symm; (try dsimp only)) | (simp only [l0, y1, y2]; try go_simp))
        go_ret
        exact ⟨rfl, rfl⟩
    · rw [decide_eq_false c0] at y1
      rw [decide_eq_true ⟨c1, by omega⟩] at y2
      rw [decide_eq_true c3] at y3
      go_enter Try.func48, Try.ntmps48
      go_wp2_with (first | ((with_reducible refine gate_calls (f := 27) ?_); refine (Power_m300 _).mono ?_; rintro e_ w3 ⟨rfl, hw3⟩; obtain rfl := hw3.symm; (try dsimp only)) | ((with_reducible refine gate_calls (f := 27) ?_); refine (Power_300 _).mono ?_; rintro e_ w3 ⟨rfl, hw3⟩; obtain rfl := hw3.symm; (try dsimp only)) | (simp only [l0, y1, y2, y3]; try go_simp))
      go_ret
      exact ⟨rfl, rfl⟩
end Go.Proofs.Yteaghcchalfgmaa.PAll
