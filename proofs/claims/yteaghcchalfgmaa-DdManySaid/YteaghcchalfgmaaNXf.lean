/- Which pairs may be reckoned with: by the words. Plain numbers: no program. -/
import Derived.Test.YteaghcchalfgmaaNXc
namespace Go.Proofs.Yteaghcchalfgmaa.Nm
open Ieee
set_option linter.unusedVariables false
set_option maxRecDepth 10000

abbrev dOrd (x y : Nat) : Option Ordering := FloatKind.f64.format.order x y

theorem rg_lt (x : Nat) : rg x < 9223372036854775808 := Nat.mod_lt _ (by decide)
theorem rg_small {x : Nat} (h : x < 9223372036854775808) : rg x = x := Nat.mod_eq_of_lt h
theorem sg_small {x : Nat} (h : x < 9223372036854775808) : sg x = false := by
  unfold sg; rw [Nat.div_eq_of_lt h]; rfl
theorem rg_rg (x : Nat) : rg (rg x) = rg x := rg_small (rg_lt x)
theorem ky_small {x : Nat} (h : x < 9223372036854775808) : Ky x = (x : Int) := by unfold Ky; rw [sg_small h, rg_small h]; rfl
theorem ky_zero {x : Nat} : Ky x = 0 ↔ rg x = 0 := by unfold Ky; split <;> omega

theorem isZ_iff (x : Nat) : (dOrd x 0 == some .eq) = decide (rg x = 0) := by
  show (double.order x 0 == some .eq) = _
  by_cases q : 9218868437227405312 < rg x
  · rw [order_nan_l q, decide_eq_false (by omega)]; rfl
  · rw [order_key (by omega) (by decide), cmp_eq]
    have : Ky 0 = 0 := by decide
    rw [this]
    exact decide_eq_decide.2 ky_zero
theorem or_bool {p q : Prop} [Decidable p] [Decidable q] : (decide p || decide q) = decide (p ∨ q) := by by_cases p <;> by_cases q <;> simp [*]

theorem ge_abs (x : Nat) {c : Nat} (hc : c ≤ 9218868437227405312) : (dOrd (rg x) c == some .gt || dOrd (rg x) c == some .eq) = decide (c ≤ rg x ∧ rg x ≤ 9218868437227405312) := by
  show (double.order (rg x) c == some .gt || double.order (rg x) c == some .eq) = _
  have h1 := rg_lt x
  by_cases q : 9218868437227405312 < rg x
  · rw [order_nan_l (by rw [rg_rg]; exact q), decide_eq_false (by omega)]; rfl
  · rw [order_key (by rw [rg_rg]; omega) (by rw [rg_small (by omega)]; exact hc), cmp_eq, cmp_gt, ky_small h1, ky_small (by omega), or_bool]
    exact decide_eq_decide.2 (by omega)
theorem le_abs (x : Nat) {c : Nat} (hc : c ≤ 9218868437227405312) : (dOrd (rg x) c == some .lt || dOrd (rg x) c == some .eq) = decide (rg x ≤ c) := by
  show (double.order (rg x) c == some .lt || double.order (rg x) c == some .eq) = _
  have h1 := rg_lt x
  by_cases q : 9218868437227405312 < rg x
  · rw [order_nan_l (by rw [rg_rg]; exact q), decide_eq_false (by omega)]; rfl
  · rw [order_key (by rw [rg_rg]; omega) (by rw [rg_small (by omega)]; exact hc), cmp_eq, cmp_lt, ky_small h1, ky_small (by omega), or_bool]
    exact decide_eq_decide.2 (by omega)
theorem lt_zero (x : Nat) : (dOrd x 0 == some .lt) = decide (sg x = true ∧ 0 < rg x ∧ rg x ≤ 9218868437227405312) := by
  show (double.order x 0 == some .lt) = _
  by_cases q : 9218868437227405312 < rg x
  · rw [order_nan_l q, decide_eq_false (by omega)]; rfl
  · rw [order_key (by omega) (by decide), cmp_lt]
    have : Ky 0 = 0 := by decide
    rw [this]
    unfold Ky
    cases sg x <;> simp <;> omega

/-- the sum of both is the first. -/
def keeps (h l : Nat) : Bool := match fA h l with | some z => dOrd z h == some .eq | none => false
/-- may the pair be reckoned with? -/
def Rt (h l : Nat) : Bool := decide (rg h = 0 ∧ rg l = 0) || (decide (3256102530588868608 ≤ rg h ∧ rg h ≤ 5958262307011166208) && keeps h l)

theorem keeps_le {h l : Nat} (h1 : 3256102530588868608 ≤ rg h) (h2 : rg h ≤ 5958262307011166208) (hl : ¬ rg l ≤ rg h) : keeps h l = false := by
  unfold keeps
  cases e : fA h l with
  | none => rfl
  | some z => exact lost (by omega) (by omega) (by omega) z e
theorem keeps_nan {h l : Nat} (e : fA h l = none) : keeps h l = false := by unfold keeps; rw [e]
theorem keeps_some {h l z : Nat} (e : fA h l = some z) : keeps h l = (dOrd z h == some .eq) := by unfold keeps; rw [e]
/-- Where the second one is no greater the sum is a float. -/
theorem sum_some {h l : Nat} (h2 : rg h ≤ 5958262307011166208) (hl : rg l ≤ rg h) : ∃ z, fA h l = some z := by
  obtain ⟨m, k, e, -⟩ := read_fin (x := h) (by omega)
  obtain ⟨m', k', e', -⟩ := read_fin (x := l) (by omega)
  show ∃ z, ((double.read h).sum (double.read l)).map double.write = some z
  rw [e, e']
  exact ⟨_, rfl⟩
/-- No sum: one of them is no number, and what is answered is none either. -/
theorem sum_none {h l : Nat} (h2 : rg h ≤ 5958262307011166208) (e : fA h l = none) : 9218868437227405312 < rg l := by
  apply Classical.byContradiction
  intro q
  obtain ⟨m, k, e1, -⟩ := read_fin (x := h) (by omega)
  replace e : ((double.read h).sum (double.read l)).map double.write = none := e
  by_cases q2 : rg l = 9218868437227405312
  · rw [e1, read_inf q2] at e; cases e
  · obtain ⟨m', k', e2, -⟩ := read_fin (x := l) (by omega)
    rw [e1, e2] at e; cases e

theorem rt_zero {h l : Nat} (h1 : rg h = 0) : Rt h l = decide (rg l = 0) := by
  unfold Rt
  rw [show decide (rg h = 0 ∧ rg l = 0) = decide (rg l = 0) from decide_eq_decide.2 (by omega), show decide (3256102530588868608 ≤ rg h ∧ rg h ≤ 5958262307011166208) = false from decide_eq_false (by omega)]
  simp
theorem rt_far {h l : Nat} (h0 : rg h ≠ 0) (h1 : ¬ (3256102530588868608 ≤ rg h ∧ rg h ≤ 5958262307011166208)) : Rt h l = false := by
  unfold Rt
  rw [decide_eq_false h1, decide_eq_false (by omega)]; rfl
theorem rt_in {h l : Nat} (h1 : 3256102530588868608 ≤ rg h) (h2 : rg h ≤ 5958262307011166208) : Rt h l = keeps h l := by
  unfold Rt
  rw [decide_eq_false (by omega), decide_eq_true ⟨h1, h2⟩]; rfl

/-- What is right is of floats that are not far. -/
theorem rt_Bd {h l : Nat} (hr : Rt h l = true) (hh : h < 18446744073709551616) (hl : l < 18446744073709551616) :
    Bd 1323 h ∧ Bd 1323 l ∧ rg l ≤ rg h ∧ (rg h = 0 ∨ 723 * 4503599627370496 ≤ rg h) := by
  by_cases q : rg h = 0
  · rw [rt_zero q] at hr
    have := of_decide_eq_true hr
    exact ⟨⟨hh, by omega⟩, ⟨hl, by omega⟩, by omega, .inl q⟩
  · by_cases q2 : 3256102530588868608 ≤ rg h ∧ rg h ≤ 5958262307011166208
    · rw [rt_in q2.1 q2.2] at hr
      have h3 : rg l ≤ rg h := Classical.byContradiction fun q3 => by
        rw [keeps_le q2.1 q2.2 q3] at hr; cases hr
      exact ⟨⟨hh, by omega⟩, ⟨hl, by omega⟩, h3, .inr (by omega)⟩
    · rw [rt_far q q2] at hr; cases hr

theorem neg_rg {x : Nat} (h : x < 18446744073709551616) : rg (Op.negFloat .f64 x) = rg x ∧ sg (Op.negFloat .f64 x) = !sg x ∧ Op.negFloat .f64 x < 18446744073709551616 := by
  have e : Op.negFloat .f64 x = x ^^^ 2 ^ 63 := rfl
  have h1 : x < 2 ^ 64 := h
  have lt : x ^^^ 2 ^ 63 < 2 ^ 64 := Nat.xor_lt_two_pow h1 (by decide)
  refine ⟨?_, ?_, by rw [e]; exact lt⟩
  · show Op.negFloat .f64 x % 2 ^ 63 = x % 2 ^ 63
    rw [e, Nat.xor_mod_two_pow]; simp
  · show ((Op.negFloat .f64 x) / 2 ^ 63 % 2 == 1) = !(x / 2 ^ 63 % 2 == 1)
    rw [e]
    have t := Nat.testBit_xor x (2 ^ 63) 63
    have a1 : Nat.testBit (x ^^^ 2 ^ 63) 63 = ((x ^^^ 2 ^ 63) / 2 ^ 63 % 2 == 1) := by rw [Nat.testBit_eq_decide_div_mod_eq]; rfl
    have a2 : Nat.testBit x 63 = (x / 2 ^ 63 % 2 == 1) := by rw [Nat.testBit_eq_decide_div_mod_eq]; rfl
    rw [← a1, ← a2, t, Nat.testBit_two_pow_self]
    cases Nat.testBit x 63 <;> rfl
end Go.Proofs.Yteaghcchalfgmaa.Nm
