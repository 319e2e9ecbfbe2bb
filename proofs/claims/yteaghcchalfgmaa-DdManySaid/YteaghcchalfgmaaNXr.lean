/- What is made of two pairs: an answer is there for all floats, and it is of floats. -/
import Derived.Test.YteaghcchalfgmaaNXq
namespace Go.Proofs.Yteaghcchalfgmaa.PAll
open Go.RowKit Go.Proofs.YteaghcchalfgmaaW.PrintWords
open Go.Proofs.Yteaghcchalfgmaa.Nm Ieee
set_option linter.unusedVariables false

theorem sE {j x : Nat} (h : Bd j x) (hj : j ≤ 2046) : sEq x x = true := by
  show (double.order x x == some .eq) = true
  rw [order_self (by have := h.2; omega)]; rfl
theorem sE2 {j s t : Nat} (h : Bd j s) (h' : Bd j t) (hj : j ≤ 2046) : (sEq s s && sEq t t) = true := by rw [sE h hj, sE h' hj]; rfl
theorem out_of {F : Option (Nat × Nat)} {q : Bool} (h : q = true → ∃ s t, F = some (s, t) ∧ Bd 2046 s ∧ Bd 2046 t) : ∃ s t z, Out F q s t z ∧ (sEq s s && sEq t t) = true := by
  cases hq : q
  · exact ⟨0, 0, 2, .inr ⟨rfl, rfl, rfl, rfl⟩, by kernel_rfl⟩
  · obtain ⟨s, t, e, b1, b2⟩ := h hq
    exact ⟨s, t, 0, .inl ⟨rfl, rfl, e⟩, sE2 b1 b2 (Nat.le_refl _)⟩
theorem neg_Bd {j x : Nat} (h : Bd j x) : Bd j (Op.negFloat .f64 x) := by
  obtain ⟨h1, h2, h3⟩ := neg_rg h.1
  exact ⟨h3, by rw [h1]; exact h.2⟩

theorem outs (a b c d : Nat) (ha : a < 18446744073709551616) (hb : b < 18446744073709551616) (hc : c < 18446744073709551616) (hd : d < 18446744073709551616) :
    (∃ s t z, Out (addF a b c d) (Rt a b && Rt c d) s t z ∧ (sEq s s && sEq t t) = true) ∧
    (∃ s t z, Out (addF a b (Op.negFloat .f64 c) (Op.negFloat .f64 d)) (Rt a b && Rt c d) s t z ∧ (sEq s s && sEq t t) = true) ∧
    (∃ s t z, Out (mulF a b c d) (Rt a b && Rt c d) s t z ∧ (sEq s s && sEq t t) = true) ∧
    (∃ s t z, OutD a b c d s t z ∧ (sEq s s && sEq t t) = true) := by
  have bds : (Rt a b && Rt c d) = true → (Bd 1323 a ∧ Bd 1323 b) ∧ Bd 1323 c ∧ Bd 1323 d ∧ rg d ≤ rg c ∧ (rg c = 0 ∨ 723 * 4503599627370496 ≤ rg c) := by
    intro hq
    obtain ⟨h1, h2⟩ : Rt a b = true ∧ Rt c d = true := by simpa using hq
    obtain ⟨x1, x2, x3, x4⟩ := rt_Bd h1 ha hb
    exact ⟨⟨x1, x2⟩, rt_Bd h2 hc hd⟩
  refine ⟨out_of fun hq => ?_, out_of fun hq => ?_, out_of fun hq => ?_, ?_⟩
  · obtain ⟨⟨x1, x2⟩, y1, y2, y3, y4⟩ := bds hq
    obtain ⟨s, t, e, b1, b2⟩ := addF_Bd x1 x2 y1 y2 (by decide) (by decide)
    exact ⟨s, t, e, bd_mono b1 (by decide), bd_mono b2 (by decide)⟩
  · obtain ⟨⟨x1, x2⟩, y1, y2, y3, y4⟩ := bds hq
    obtain ⟨s, t, e, b1, b2⟩ := addF_Bd x1 x2 (neg_Bd y1) (neg_Bd y2) (by decide) (by decide)
    exact ⟨s, t, e, bd_mono b1 (by decide), bd_mono b2 (by decide)⟩
  · obtain ⟨⟨x1, x2⟩, y1, y2, y3, y4⟩ := bds hq
    obtain ⟨s, t, e, b1, b2⟩ := mulF_Bd x1 x2 y1 y2 (by decide) (by decide) (by decide) (by decide) (by decide) (by decide)
    exact ⟨s, t, e, bd_mono b1 (by decide), bd_mono b2 (by decide)⟩
  · by_cases hz : decide (rg c = 0 ∧ rg d = 0) = true ∧ Rt a b = true
    · exact ⟨0, 0, 30, .inl ⟨hz.1, hz.2, rfl, rfl, rfl⟩, by kernel_rfl⟩
    · obtain ⟨s, t, z, h1, h2⟩ := out_of (F := divF a b c d) (q := Rt a b && Rt c d) (fun hq => by
        obtain ⟨⟨x1, x2⟩, y1, y2, y3, y4⟩ := bds hq
        have hra : Rt a b = true := by
          cases hh : Rt a b
          · rw [hh] at hq; cases hq
          · rfl
        have h5 : 723 * 4503599627370496 ≤ rg c := by
          rcases y4 with y4 | y4
          · exact absurd ⟨decide_eq_true ⟨y4, Nat.le_zero.1 (y4 ▸ y3)⟩, hra⟩ hz
          · exact y4
        obtain ⟨s, t, e, b1, b2⟩ := divF_Bd x1 x2 hc hd y3 h5 y1.2
        exact ⟨s, t, e, bd_mono b1 (by decide), bd_mono b2 (by decide)⟩)
      exact ⟨s, t, z, .inr ⟨hz, h1⟩, h2⟩

theorem law_DdTwos (a b c d : Nat) (ha : (Lit.float .f64 a).wf = true) (hb : (Lit.float .f64 b).wf = true) (hc : (Lit.float .f64 c).wf = true) (hd : (Lit.float .f64 d).wf = true) (w : World) :
    Calls Try.prog 5 #[.agg #[.float .f64 a, .float .f64 b], .agg #[.float .f64 c, .float .f64 d]] w fun e w' => e = .returned (.bool true) ∧ Below w.heap.size w w' := by
  have lt : ∀ x, (Lit.float .f64 x).wf = true → x < 18446744073709551616 := fun x h => by simpa [Lit.wf] using h
  obtain ⟨⟨s0, t0, z0, o0, q0⟩, ⟨s1, t1, z1, o1, q1⟩, ⟨s2, t2, z2, o2, q2⟩, s3, t3, z3, o3, q3⟩ := outs a b c d (lt a ha) (lt b hb) (lt c hc) (lt d hd)
  exact DdTwos_calls a b c d s0 t0 s1 t1 s2 t2 s3 t3 z0 z1 z2 z3 (lt a ha) (lt b hb) (lt c hc) (lt d hd) o0 o1 o2 o3 q0 q1 q2 q3 w
end Go.Proofs.Yteaghcchalfgmaa.PAll
