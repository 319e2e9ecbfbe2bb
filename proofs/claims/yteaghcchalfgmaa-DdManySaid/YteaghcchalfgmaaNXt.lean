/- Sums, differences and products of floats by their values: what is lost. Plain numbers: no program. -/
import Derived.Test.YteaghcchalfgmaaNXs
import Derived.KernelRfl
namespace Go.Proofs.Yteaghcchalfgmaa.Nm
open Ieee
set_option linter.unusedVariables false
set_option maxRecDepth 10000

theorem div_out {X Y u e : Nat} (hu : 0 < u) (h : X * u ≤ Y * u + u * e) : X ≤ Y + e := by
  apply Nat.le_of_mul_le_mul_right _ hu
  rw [Nat.add_mul, Nat.mul_comm e u]; exact h

theorem near_sgn (T : Int) (s0 : Bool) {r : Nat} {X : Int} {e : Nat} (hr : r < 9218868437227405312) (hX : ∃ u : Nat, 0 < u ∧ X = T * (u : Int))
    (h1 : mg (double.word (if T = 0 then s0 else decide (T < 0)) r) ≤ X.natAbs + e) (h2 : X.natAbs ≤ mg (double.word (if T = 0 then s0 else decide (T < 0)) r) + e) :
    (V (double.word (if T = 0 then s0 else decide (T < 0)) r) - X).natAbs ≤ e := by
  obtain ⟨u, hu, rfl⟩ := hX
  rw [(V_word _ hr).2]
  generalize mg (double.word (if T = 0 then s0 else decide (T < 0)) r) = M at *
  rcases Int.lt_trichotomy T 0 with h | h | h
  · have hT : ¬ T = 0 := by intro e; rw [e] at h; exact absurd h (by decide)
    have : T * (u : Int) < 0 := Int.mul_neg_of_neg_of_pos h (by omega)
    generalize T * (u : Int) = X at *
    rw [if_neg hT, decide_eq_true h, if_pos rfl]
    omega
  · subst h
    rw [Int.zero_mul] at *
    split <;> omega
  · have hT : ¬ T = 0 := by intro e; rw [e] at h; exact absurd h (by decide)
    have hT2 : ¬ T < 0 := by intro e; exact absurd (Int.lt_trans e h) (Int.lt_irrefl _)
    have : 0 < T * (u : Int) := Int.mul_pos h (by omega)
    generalize T * (u : Int) = X at *
    rw [if_neg hT, decide_eq_false hT2]
    simp only [Bool.false_eq_true, if_false]
    omega

theorem signed_V (s : Bool) (m k b : Nat) (h : b ≤ k) : signed s m (k - b) * ((2 ^ b : Nat) : Int) = if s = true then -((m * 2 ^ k : Nat) : Int) else ((m * 2 ^ k : Nat) : Int) := by
  have e : m * 2 ^ k = m * 2 ^ (k - b) * 2 ^ b := by rw [Nat.mul_assoc, ← Nat.pow_add]; congr 2; omega
  unfold signed
  rw [shl_, e]
  cases s
  · simp only [Bool.false_eq_true, if_false]
    exact (Int.natCast_mul _ _).symm
  · simp only [if_true]
    rw [Int.natCast_mul (m * 2 ^ (k - b)), Int.neg_mul]

theorem sum_core (a b : Bool) (m k m' k' E : Nat) (hE : E ≤ 2030) {A B : Int} (hA : A = if a = true then -((m * 2 ^ k : Nat) : Int) else ((m * 2 ^ k : Nat) : Int)) (hB : B = if b = true then -((m' * 2 ^ k' : Nat) : Int) else ((m' * 2 ^ k' : Nat) : Int))
    (hb : (A + B).natAbs ≤ 2 ^ (53 + E)) :
    ∃ z, ((Datum.number a m (-1074 + (k : Int))).sum (.number b m' (-1074 + (k' : Int)))).map double.write = some z ∧ Fi z ∧ (V z - (A + B)).natAbs ≤ 2 ^ E := by
  have hbm : min (-1074 + (k : Int)) (-1074 + (k' : Int)) = -1074 + (min k k' : Nat) := by omega
  have e1 : (-1074 + (k : Int) - (-1074 + (min k k' : Nat))).toNat = k - min k k' := by omega
  have e2 : (-1074 + (k' : Int) - (-1074 + (min k k' : Nat))).toNat = k' - min k k' := by omega
  have hs1 := signed_V a m k (min k k') (Nat.min_le_left _ _)
  have hs2 := signed_V b m' k' (min k k') (Nat.min_le_right _ _)
  rw [← hA] at hs1
  rw [← hB] at hs2
  refine ⟨_, rfl, ?_⟩
  show Fi (double.nearest (if signed a m ((-1074 + (k : Int) - min (-1074 + (k : Int)) (-1074 + (k' : Int))).toNat) + signed b m' ((-1074 + (k' : Int) - min (-1074 + (k : Int)) (-1074 + (k' : Int))).toNat) = 0 then (a && b) else decide (signed a m ((-1074 + (k : Int) - min (-1074 + (k : Int)) (-1074 + (k' : Int))).toNat) + signed b m' ((-1074 + (k' : Int) - min (-1074 + (k : Int)) (-1074 + (k' : Int))).toNat) < 0)) (signed a m ((-1074 + (k : Int) - min (-1074 + (k : Int)) (-1074 + (k' : Int))).toNat) + signed b m' ((-1074 + (k' : Int) - min (-1074 + (k : Int)) (-1074 + (k' : Int))).toNat)).natAbs (min (-1074 + (k : Int)) (-1074 + (k' : Int)))) ∧ (V (double.nearest (if signed a m ((-1074 + (k : Int) - min (-1074 + (k : Int)) (-1074 + (k' : Int))).toNat) + signed b m' ((-1074 + (k' : Int) - min (-1074 + (k : Int)) (-1074 + (k' : Int))).toNat) = 0 then (a && b) else decide (signed a m ((-1074 + (k : Int) - min (-1074 + (k : Int)) (-1074 + (k' : Int))).toNat) + signed b m' ((-1074 + (k' : Int) - min (-1074 + (k : Int)) (-1074 + (k' : Int))).toNat) < 0)) (signed a m ((-1074 + (k : Int) - min (-1074 + (k : Int)) (-1074 + (k' : Int))).toNat) + signed b m' ((-1074 + (k' : Int) - min (-1074 + (k : Int)) (-1074 + (k' : Int))).toNat)).natAbs (min (-1074 + (k : Int)) (-1074 + (k' : Int)))) - (A + B)).natAbs ≤ 2 ^ E
  rw [hbm, e1, e2]
  generalize hT : signed a m (k - min k k') + signed b m' (k' - min k k') = T
  have hX : A + B = T * ((2 ^ min k k' : Nat) : Int) := by rw [← hT, Int.add_mul, hs1, hs2]
  have hn : (A + B).natAbs = T.natAbs * 2 ^ min k k' := by rw [hX, Int.natAbs_mul, Int.natAbs_natCast]
  have hp : (-1074 + ((min k k' : Nat) : Int)) = -2148 + ((ku + min k k' : Nat) : Int) := by have := ku_eq; omega
  have hm : T.natAbs * 2 ^ (ku + min k k') = (A + B).natAbs * 2 ^ ku := by rw [hn, Nat.pow_add, Nat.mul_assoc, Nat.mul_comm (2 ^ ku)]
  rw [hp]
  obtain ⟨r, er, hr, h1, h2⟩ := near_err (if T = 0 then (a && b) else decide (T < 0)) (mag := T.natAbs) (c := ku + min k k') (E := E) hE (by
    rw [hm, show ku + 53 + E = 53 + E + ku by omega, Nat.pow_add 2 (53 + E)]
    exact Nat.mul_le_mul_right _ hb)
  rw [er]
  refine ⟨(V_word _ hr).1, ?_⟩
  rw [hm, Nat.pow_add] at h1 h2
  exact near_sgn T (a && b) hr ⟨2 ^ min k k', Nat.two_pow_pos _, hX⟩ (div_out (Nat.two_pow_pos ku) h1) (div_out (Nat.two_pow_pos ku) h2)

theorem V_eq {x m k : Nat} (h : m * 2 ^ k = mg x) : V x = if sg x = true then -((m * 2 ^ k : Nat) : Int) else ((m * 2 ^ k : Nat) : Int) := by
  unfold V; rw [h]

theorem add_V {x y E : Nat} (hx : Fi x) (hy : Fi y) (hE : E ≤ 2030) (hb : (V x + V y).natAbs ≤ 2 ^ (53 + E)) : ∃ z, fA x y = some z ∧ Fi z ∧ (V z - (V x + V y)).natAbs ≤ 2 ^ E := by
  obtain ⟨m, k, e, h1⟩ := read_V hx
  obtain ⟨m', k', e', h2⟩ := read_V hy
  show ∃ z, ((double.read x).sum (double.read y)).map double.write = some z ∧ _
  rw [e, e']
  exact sum_core _ _ m k m' k' E hE (V_eq h1) (V_eq h2) hb

theorem sub_V {x y E : Nat} (hx : Fi x) (hy : Fi y) (hE : E ≤ 2030) (hb : (V x - V y).natAbs ≤ 2 ^ (53 + E)) : ∃ z, fS x y = some z ∧ Fi z ∧ (V z - (V x - V y)).natAbs ≤ 2 ^ E := by
  obtain ⟨m, k, e, h1⟩ := read_V hx
  obtain ⟨m', k', e', h2⟩ := read_V hy
  show ∃ z, ((double.read x).sum (double.read y).opposite).map double.write = some z ∧ _
  rw [e, e']
  have hB : -V y = if (!sg y) = true then -((m' * 2 ^ k' : Nat) : Int) else ((m' * 2 ^ k' : Nat) : Int) := by
    rw [V_eq h2]; cases sg y <;> simp
  have := sum_core (sg x) (!sg y) m k m' k' E hE (V_eq h1) hB (by rw [← Int.sub_eq_add_neg]; exact hb)
  rw [← Int.sub_eq_add_neg] at this
  exact this

theorem mul_V {x y E : Nat} (hx : Fi x) (hy : Fi y) (hE : E ≤ 2030) (hb : (V x * V y).natAbs ≤ 2 ^ (53 + E) * 2 ^ ku) : ∃ z, fM x y = some z ∧ Fi z ∧ (V z * ((2 ^ ku : Nat) : Int) - V x * V y).natAbs ≤ 2 ^ E * 2 ^ ku := by
  obtain ⟨m, k, e, h1⟩ := read_V hx
  obtain ⟨m', k', e', h2⟩ := read_V hy
  show ∃ z, ((double.read x).product (double.read y)).map double.write = some z ∧ _
  rw [e, e']
  refine ⟨_, rfl, ?_⟩
  show Fi (double.nearest (sg x ^^ sg y) (m * m') (-1074 + (k : Int) + (-1074 + (k' : Int)))) ∧ (V (double.nearest (sg x ^^ sg y) (m * m') (-1074 + (k : Int) + (-1074 + (k' : Int)))) * ((2 ^ ku : Nat) : Int) - V x * V y).natAbs ≤ 2 ^ E * 2 ^ ku
  have hp : (-1074 + (k : Int) + (-1074 + (k' : Int))) = -2148 + ((k + k' : Nat) : Int) := by omega
  have hm : m * m' * 2 ^ (k + k') = mg x * mg y := by
    rw [← h1, ← h2, Nat.pow_add, Nat.mul_assoc, Nat.mul_assoc, ← Nat.mul_assoc m' (2 ^ k), Nat.mul_comm m' (2 ^ k), Nat.mul_assoc (2 ^ k)]
  have hv : V x * V y = if (sg x ^^ sg y) = true then -((mg x * mg y : Nat) : Int) else ((mg x * mg y : Nat) : Int) := by
    unfold V
    rw [Int.natCast_mul]
    cases sg x <;> cases sg y <;> simp [Int.neg_mul, Int.mul_neg]
  have hva : (V x * V y).natAbs = mg x * mg y := by
    rw [hv]; split
    · rw [Int.natAbs_neg, Int.natAbs_natCast]
    · rw [Int.natAbs_natCast]
  rw [hp]
  obtain ⟨r, er, hr, h3, h4⟩ := near_err (sg x ^^ sg y) (mag := m * m') (c := k + k') (E := E) hE (by
    rw [hm, ← hva, show ku + 53 + E = 53 + E + ku by omega, Nat.pow_add 2 (53 + E)]
    exact hb)
  rw [er]
  refine ⟨(V_word _ hr).1, ?_⟩
  rw [(V_word _ hr).2, hv]
  rw [hm, Nat.pow_add, Nat.mul_comm (2 ^ ku) (2 ^ E)] at h3 h4
  generalize 2 ^ E * 2 ^ ku = W at *
  generalize mg (double.word (sg x ^^ sg y) r) = M at *
  have hc : ((M : Int)) * ((2 ^ ku : Nat) : Int) = ((M * 2 ^ ku : Nat) : Int) := (Int.natCast_mul _ _).symm
  clear hm hva hb er hr hv hp h1 h2
  generalize hQ : mg x * mg y = Q at *
  cases sg x ^^ sg y
  · simp only [Bool.false_eq_true, if_false]
    rw [hc]
    clear hc
    generalize M * 2 ^ ku = P at *
    omega
  · simp only [if_true]
    rw [Int.neg_mul, hc]
    clear hc
    generalize M * 2 ^ ku = P at *
    omega

theorem mg_Bd {j x : Nat} (h : Bd j x) (hj : 1 ≤ j) (hj2 : j ≤ 2046) : mg x ≤ 2 ^ (j + 51) := by
  obtain ⟨m, n, k, e, h1, h2, h3⟩ := read_Bd h hj hj2
  obtain ⟨m', k', e', h4⟩ := read_V (x := x) ⟨h.1, by have := h.2; omega⟩
  rw [e] at e'
  injection e' with _ e1 e2
  subst e1
  have e3 : k = k' := by omega
  subst e3
  rw [← h4]
  refine Nat.le_trans (Nat.mul_le_mul_right _ h1) ?_
  rw [← Nat.pow_add]
  exact pow_le h2
theorem V_abs (x : Nat) : (V x).natAbs = mg x := by unfold V; split <;> simp
theorem V_kk : V 4728779608772575232 = 134217729 * ((2 ^ ku : Nat) : Int) := by kernel_rfl
end Go.Proofs.Yteaghcchalfgmaa.Nm
