/- Floats by their values, in units of 2^-1074: what rounding loses. Plain numbers: no program. -/
import Derived.Test.YteaghcchalfgmaaNXf
namespace Go.Proofs.Yteaghcchalfgmaa.Nm
open Ieee
set_option linter.unusedVariables false
set_option maxRecDepth 10000

/-- the amount, the value: in units of 2^-1074. -/
def mg (x : Nat) : Nat := if rg x < 4503599627370496 then rg x else (4503599627370496 + rg x % 4503599627370496) * 2 ^ (rg x / 4503599627370496 - 1)
/-- one, in these units, is two to this. -/
def ku : Nat := 1074
theorem ku_eq : ku = 1074 := rfl
def V (x : Nat) : Int := if sg x = true then -(mg x : Int) else (mg x : Int)
def Fi (x : Nat) : Prop := x < 18446744073709551616 ∧ rg x < 9218868437227405312

theorem read_V {x : Nat} (h : Fi x) : ∃ m k : Nat, double.read x = .number (sg x) m (-1074 + (k : Int)) ∧ m * 2 ^ k = mg x := by
  obtain ⟨m, k, e, c⟩ := read_fin h.2
  refine ⟨m, k, e, ?_⟩
  unfold mg
  rcases c with ⟨a, rfl, rfl⟩ | ⟨a, rfl, rfl⟩
  · rw [if_pos a, Nat.pow_zero, Nat.mul_one]
  · rw [if_neg (by omega)]

theorem cut_err (s : Bool) (n d : Nat) : 2 * (Toward.even.cut s n d * 2 ^ d) ≤ 2 * n + 2 ^ d ∧ 2 * n ≤ 2 * (Toward.even.cut s n d * 2 ^ d) + 2 ^ d := by
  unfold Toward.cut
  rw [Nat.one_shiftLeft]
  dsimp only
  by_cases hd : d ≤ n.log2 + 2
  · rw [Nat.min_eq_left hd]
    have h1 := Nat.div_add_mod n (2 ^ d)
    have h2 := Nat.mod_lt n (Nat.two_pow_pos d)
    generalize n / 2 ^ d = q at *
    generalize n % 2 ^ d = r at *
    generalize 2 ^ d = g at *
    rw [Nat.add_mul]
    have h3 : q * g = g * q := Nat.mul_comm _ _
    rw [h3]
    generalize g * q = w at *
    cases hm : (decide (g < 2 * r) || (g == 2 * r && q % 2 == 1))
    · have : ¬ g < 2 * r := by
        intro e; rw [decide_eq_true e] at hm; cases hm
      simp only [Bool.toNat_false, Nat.zero_mul]
      omega
    · have : g ≤ 2 * r := by
        rcases Bool.or_eq_true_iff.1 hm with e | e
        · have := of_decide_eq_true e; omega
        · have := (Bool.and_eq_true_iff.1 e).1
          have := beq_iff_eq.1 this; omega
      simp only [Bool.toNat_true, Nat.one_mul]
      omega
  · rw [Nat.min_eq_right (by omega)]
    have hn : n < 2 ^ (n.log2 + 1) := lt_log
    have hg : 2 ^ (n.log2 + 2) = 2 * 2 ^ (n.log2 + 1) := by rw [Nat.pow_succ]; omega
    have hdd : 2 ^ (n.log2 + 2) ≤ 2 ^ d := pow_le (by omega)
    rw [Nat.div_eq_of_lt (by omega), Nat.mod_eq_of_lt (by omega)]
    have f1 : decide (2 ^ (n.log2 + 2) < 2 * n) = false := decide_eq_false (by omega)
    have f2 : (2 ^ (n.log2 + 2) == 2 * n) = false := by
      cases h : (2 ^ (n.log2 + 2) == 2 * n)
      · rfl
      · have := beq_iff_eq.1 h; omega
    rw [f1, f2]
    simp only [Bool.false_or, Bool.false_and, Bool.toNat_false, Nat.add_zero, Nat.zero_mul, Nat.mul_zero]
    omega

theorem mg_rung (s : Bool) {j kept : Nat} (h1 : kept ≤ 9007199254740992) (h2 : j = 0 ∨ 4503599627370496 ≤ kept) (h3 : j * 4503599627370496 + kept < 9218868437227405312) :
    mg (double.word s (j * 4503599627370496 + kept)) = kept * 2 ^ j := by
  obtain ⟨w1, -, -⟩ := word_rg s (r := j * 4503599627370496 + kept) (by omega)
  unfold mg
  rw [w1]
  by_cases hk : kept = 9007199254740992
  · subst hk
    have e1 : (j * 4503599627370496 + 9007199254740992) / 4503599627370496 = j + 2 := by omega
    have e2 : (j * 4503599627370496 + 9007199254740992) % 4503599627370496 = 0 := by omega
    rw [if_neg (by omega), e1, e2, show j + 2 - 1 = j + 1 by omega, Nat.pow_succ]
    omega
  · by_cases hl : 4503599627370496 ≤ kept
    · have e1 : (j * 4503599627370496 + kept) / 4503599627370496 = j + 1 := by omega
      have e2 : 4503599627370496 + (j * 4503599627370496 + kept) % 4503599627370496 = kept := by omega
      rw [if_neg (by omega), e1, e2, show j + 1 - 1 = j by omega]
    · have : j = 0 := by omega
      subst this
      rw [if_pos (by omega)]
      omega

/-- What the nearest word loses: in units of 2^-2148. -/
theorem near_err (s : Bool) {mag c E : Nat} (hE : E ≤ 2030) (hm : mag * 2 ^ c ≤ 2 ^ (ku + 53 + E)) :
    ∃ r, double.nearest s mag (-2148 + (c : Int)) = double.word s r ∧ r < 9218868437227405312 ∧
      mg (double.word s r) * 2 ^ ku ≤ mag * 2 ^ c + 2 ^ (ku + E) ∧ mag * 2 ^ c ≤ mg (double.word s r) * 2 ^ ku + 2 ^ (ku + E) := by
  have hku := ku_eq
  unfold Format.nearest
  rw [fb_, lp_, bn_, ir_]
  by_cases h0 : mag = 0
  · rw [if_pos h0]
    subst h0
    refine ⟨0, rfl, by decide, ?_⟩
    have : mg (double.word s 0) = 0 := by cases s <;> rfl
    rw [this, Nat.zero_mul, Nat.zero_mul]
    exact ⟨Nat.zero_le _, Nat.zero_le _⟩
  rw [if_neg h0]
  dsimp only
  have he : mag.log2 + c ≤ ku + 53 + E := by
    have h1 : 2 ^ (mag.log2 + c) ≤ 2 ^ (ku + 53 + E) := Nat.le_trans (by rw [Nat.pow_add]; exact Nat.mul_le_mul_right _ (log_le h0)) hm
    exact (Nat.pow_le_pow_iff_right (a := 2) (by decide)).1 h1
  generalize hL : max (-2148 + (c : Int) + (mag.log2 : Int) - ((52 : Nat) : Int)) (-1074) = last
  have hl2 : -1074 ≤ last := by omega
  have hl3 : last = -2148 + (c : Int) + (mag.log2 : Int) - 52 ∨ last = -1074 := by omega
  obtain ⟨j, hj⟩ : ∃ j : Nat, last = -1074 + (j : Int) := ⟨(last + 1074).toNat, by omega⟩
  have hjE : j ≤ E + 1 := by omega
  have hkle : Toward.even.cut s (mag <<< (-2148 + (c : Int) - last).toNat) (last - (-2148 + (c : Int))).toNat ≤ 9007199254740992 := by
    apply cut_le
    rw [shl_]
    have h1 : mag * 2 ^ (-2148 + (c : Int) - last).toNat < 2 ^ (mag.log2 + 1) * 2 ^ (-2148 + (c : Int) - last).toNat := Nat.mul_lt_mul_of_pos_right lt_log (Nat.two_pow_pos _)
    rw [← Nat.pow_add] at h1
    exact Nat.lt_of_lt_of_le h1 (pow_le (by omega))
  have hkge : j = 0 ∨ 4503599627370496 ≤ Toward.even.cut s (mag <<< (-2148 + (c : Int) - last).toNat) (last - (-2148 + (c : Int))).toNat := by
    by_cases hj0 : j = 0
    · exact .inl hj0
    · right
      apply cut_ge
      rw [shl_]
      have h1 : 2 ^ mag.log2 * 2 ^ (-2148 + (c : Int) - last).toNat ≤ mag * 2 ^ (-2148 + (c : Int) - last).toNat := Nat.mul_le_mul_right _ (log_le h0)
      rw [← Nat.pow_add] at h1
      exact Nat.le_trans (pow_le (by omega)) h1
  obtain ⟨c1, c2⟩ := cut_err s (mag <<< (-2148 + (c : Int) - last).toNat) (last - (-2148 + (c : Int))).toNat
  have hsum : ∀ kept : Nat, kept ≤ 9007199254740992 → (last - -1074).toNat * 4503599627370496 + kept < 9218868437227405312 := by
    intro kept hk
    have : (last - -1074).toNat = j := by omega
    rw [this]
    have : j * 4503599627370496 ≤ 2031 * 4503599627370496 := Nat.mul_le_mul_right _ (by omega)
    omega
  have hjj : (last - -1074).toNat = j := by omega
  generalize hkk : Toward.even.cut s (mag <<< (-2148 + (c : Int) - last).toNat) (last - (-2148 + (c : Int))).toNat = kept at hkle hkge c1 c2 ⊢
  have hs := hsum kept hkle
  rw [hjj] at hs ⊢
  rw [Nat.min_eq_left (Nat.le_of_lt hs)]
  refine ⟨_, rfl, hs, ?_⟩
  rw [mg_rung s hkle hkge hs]
  -- the digits dropped, or appended
  by_cases hd : 1074 + j ≤ c
  · -- nothing is dropped
    have e1 : (last - (-2148 + (c : Int))).toNat = 0 := by omega
    have e2 : (-2148 + (c : Int) - last).toNat = c - (1074 + j) := by omega
    rw [e1, e2, shl_, Nat.pow_zero, Nat.mul_one] at c1 c2
    have hk : kept = mag * 2 ^ (c - (1074 + j)) := by omega
    have hfin : kept * 2 ^ j * 2 ^ ku = mag * 2 ^ c := by
      rw [hk, Nat.mul_assoc, Nat.mul_assoc, ← Nat.pow_add, ← Nat.pow_add]
      congr 2; omega
    rw [hfin]
    exact ⟨Nat.le_add_right _ _, Nat.le_add_right _ _⟩
  · have e1 : (last - (-2148 + (c : Int))).toNat = 1074 + j - c := by omega
    have e2 : (-2148 + (c : Int) - last).toNat = 0 := by omega
    rw [e1, e2, shl_, Nat.pow_zero, Nat.mul_one] at c1 c2
    have hp : 2 ^ (1074 + j - c) * 2 ^ c = 2 ^ j * 2 ^ ku := by
      rw [← Nat.pow_add, ← Nat.pow_add]; congr 1; omega
    have hq : 2 ^ j * 2 ^ ku ≤ 2 * 2 ^ (ku + E) := by
      rw [← Nat.pow_add, ← Nat.pow_succ']
      exact pow_le (by omega)
    have m1 := Nat.mul_le_mul_right (2 ^ c) c1
    have m2 := Nat.mul_le_mul_right (2 ^ c) c2
    have a1 : 2 * (kept * 2 ^ (1074 + j - c)) * 2 ^ c = 2 * (kept * 2 ^ j * 2 ^ ku) := by
      rw [Nat.mul_assoc, Nat.mul_assoc, hp, Nat.mul_assoc]
    have a2 : (2 * mag + 2 ^ (1074 + j - c)) * 2 ^ c = 2 * (mag * 2 ^ c) + 2 ^ j * 2 ^ ku := by
      rw [Nat.add_mul, hp, Nat.mul_assoc]
    have a3 : (2 * (kept * 2 ^ (1074 + j - c)) + 2 ^ (1074 + j - c)) * 2 ^ c = 2 * (kept * 2 ^ j * 2 ^ ku) + 2 ^ j * 2 ^ ku := by
      rw [Nat.add_mul, a1, hp]
    have a4 : 2 * mag * 2 ^ c = 2 * (mag * 2 ^ c) := Nat.mul_assoc _ _ _
    rw [a1, a2] at m1
    rw [a4, a3] at m2
    generalize kept * 2 ^ j * 2 ^ ku = X at *
    generalize mag * 2 ^ c = Y at *
    generalize 2 ^ j * 2 ^ ku = Z at *
    generalize 2 ^ (ku + E) = W at *
    constructor <;> omega

theorem V_word (s : Bool) {r : Nat} (h : r < 9218868437227405312) : Fi (double.word s r) ∧ V (double.word s r) = if s = true then -(mg (double.word s r) : Int) else (mg (double.word s r) : Int) := by
  obtain ⟨w1, w2, w3⟩ := word_rg s (r := r) (by omega)
  refine ⟨⟨w3, by rw [w1]; exact h⟩, ?_⟩
  unfold V; rw [w2]
end Go.Proofs.Yteaghcchalfgmaa.Nm
