/- What many floats and polynomials come to: an answer is there for all floats, and it is of floats. -/
import Derived.Test.YteaghcchalfgmaaNXy
import Derived.Test.YteaghcchalfgmaaNXr
namespace Go.Proofs.Yteaghcchalfgmaa.PAll
open Go.RowKit Go.Proofs.YteaghcchalfgmaaW.PrintWords
open Go.Proofs.Yteaghcchalfgmaa.Nm Ieee
set_option linter.unusedVariables false

def ke : Nat := 1337
def kM : Nat := 1374
theorem mM : 2 ^ kM = 137438953472 * 2 ^ ke := by
  rw [show (137438953472 : Nat) = 2 ^ 37 from rfl, ← Nat.pow_add]
  exact congrArg (fun n => 2 ^ n) (show kM = 37 + ke from rfl)
theorem mg_to {j x n : Nat} (h : Bd j x) (hj : 1 ≤ j) (hj2 : j ≤ 2046) (hn : j + 51 = n) : mg x ≤ 2 ^ n := hn ▸ mg_Bd h hj hj2
theorem fi_sE {x : Nat} (h : Fi x) : sEq x x = true := by
  show (double.order x x == some .eq) = true
  rw [order_self h.2]; rfl
theorem one_ok {x : Nat} (hx : x < 18446744073709551616) (h : fOk x = true) : Fi x ∧ (V x).natAbs ≤ 137438953472 * 2 ^ ke := by
  have h1 := fOk_fin h
  refine ⟨⟨hx, by omega⟩, ?_⟩
  rw [V_abs, ← mM]
  exact mg_to (j := 1323) ⟨hx, by omega⟩ (by decide) (by decide) rfl
theorem okE_all {l : List Nat} (h : okE l = 0) : ∀ x ∈ l, fOk x = true := by
  unfold okE at h
  by_cases q : 1024 < l.length
  · rw [if_pos q] at h; cases h
  · rw [if_neg q] at h
    by_cases q2 : l.all fOk = true
    · exact List.all_eq_true.1 q2
    · rw [if_neg q2] at h; cases h
theorem many (l : List Nat) (hl : ∀ x ∈ l, x < 18446744073709551616) (h : okE l = 0) {k : Nat} (hk : Fi k) (hk1 : (V k).natAbs ≤ 2 ^ ku) :
    (∃ s t, sumF (0, 0) l = some (s, t) ∧ Fi s ∧ Fi t) ∧ ∃ s t, polyF k (0, 0) l = some (s, t) ∧ Fi s ∧ Fi t :=
  poly_all (E := ke) (by decide) rfl hk hk1 l (0, 0) 0 (fun x hx => one_ok (hl x hx) (okE_all h x hx)) (by have := okE_len h; omega) fi_0 fi_0 (by show (V 0).natAbs ≤ _; rw [V_0]; exact Nat.zero_le _) (by show (V 0).natAbs ≤ _; rw [V_0]; exact Nat.zero_le _)
theorem outS (l : List Nat) (hl : ∀ x ∈ l, x < 18446744073709551616) : ∃ s t z, OutS l s t z ∧ (sEq s s && sEq t t) = true := by
  by_cases h : okE l = 0
  · obtain ⟨⟨s, t, e, f1, f2⟩, -⟩ := many l hl h (k := 0) fi_0 (by rw [V_0]; exact Nat.zero_le _)
    exact ⟨s, t, 0, .inr ⟨h, rfl, e⟩, by rw [fi_sE f1, fi_sE f2]; rfl⟩
  · exact ⟨0, 0, okE l, .inl ⟨rfl, h, rfl, rfl⟩, by kernel_rfl⟩
theorem outP (l : List Nat) (hl : ∀ x ∈ l, x < 18446744073709551616) (x : Nat) (hx : x < 18446744073709551616) : ∃ s t z, OutP l x s t z ∧ (sEq s s && sEq t t) = true := by
  by_cases h : okE l = 0
  · cases hx1 : okX x
    · exact ⟨0, 0, 2, .inr (.inl ⟨h, hx1, rfl, rfl, rfl⟩), by kernel_rfl⟩
    · have hx2 := hx1
      unfold okX at hx2
      obtain ⟨q1, q2⟩ := Bool.and_eq_true_iff.1 hx2
      replace q2 := of_decide_eq_true q2
      obtain ⟨-, s, t, e, f1, f2⟩ := many l hl h (k := x) ⟨hx, by omega⟩ (by
        rw [V_abs]
        exact mg_to (j := 1023) ⟨hx, by omega⟩ (by decide) (by decide) rfl)
      exact ⟨s, t, 0, .inr (.inr ⟨h, hx1, rfl, e⟩), by rw [fi_sE f1, fi_sE f2]; rfl⟩
  · exact ⟨0, 0, okE l, .inl ⟨rfl, h, rfl, rfl⟩, by kernel_rfl⟩

theorem law_DdMany (A : Option Addr) (c : Nat) (l : List Nat) (hl : ∀ y ∈ l, y < 18446744073709551616) (x : Nat) (hx : (Lit.float .f64 x).wf = true) (hlen : l.length * 8 ≤ 140737488351232) (w : World) (hr : Kd.C kf w A l.length l) :
    Calls Try.prog 4 #[.slice A l.length c, .float .f64 x] w fun e w' => e = .returned (.bool true) ∧ Below w.heap.size w w' := by
  have hx0 : x < 18446744073709551616 := by simpa [Lit.wf] using hx
  obtain ⟨s1, t1, z1, o1, q1⟩ := outS l hl
  obtain ⟨s2, t2, z2, o2, q2⟩ := outP l hl x hx0
  exact DdMany_calls A c l hl x hx0 s1 t1 z1 s2 t2 z2 o1 o2 q1 q2 hlen w hr
end Go.Proofs.Yteaghcchalfgmaa.PAll
