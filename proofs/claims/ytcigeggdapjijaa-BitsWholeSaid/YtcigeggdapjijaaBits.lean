/- Plain facts on the words of binary64 numbers: what the printed functions of package bits and of its reference come to. -/
import Derived.Test.YtcigeggdapjijaaPAllx
import Derived.Laws.BitsAllLaws
namespace Go.Proofs.Ytcigeggdapjijaa.Pure
open Go.RowKit Go.Proofs.Ytcigeggdapjijaa.PAll Go.Proofs.YtcigeggdapjijaaW.PrintWords Go.Proofs.YtcigeggdapjijaaW.PrintLast Go.Proofs.YtcigeggdapjijaaW.PrintMore
set_option linter.unusedVariables false
set_option linter.unusedSimpArgs false

/-- a word of 64 bits -/
def W64 (x : Int) : Prop := 0 ≤ x ∧ x < 18446744073709551616

theorem w64_of {x : Int} (h : (Lit.int .u64 x).wf = true) : W64 x := by
  simp [Lit.wf, IntKind.min, IntKind.max, IntKind.bits, IntKind.signed] at h
  unfold W64; omega

theorem wrapU {x : Int} (h0 : 0 ≤ x) (h1 : x < 18446744073709551616) : IntKind.u64.wrap x = x := by
  rw [IntKind.wrap_u64]; omega

theorem wrapS {x : Int} (h0 : -9223372036854775808 ≤ x) (h1 : x < 9223372036854775808) : wrap64 x = x := by
  unfold wrap64; omega

theorem tmodE {x m : Int} (h : 0 ≤ x) : Int.tmod x m = x % m := Int.tmod_eq_emod_of_nonneg h
theorem tdivE {x m : Int} (h : 0 ≤ x) : Int.tdiv x m = x / m := Int.tdiv_eq_ediv_of_nonneg h

theorem toNat_cast {x : Int} (h : 0 ≤ x) : ((x.toNat : Nat) : Int) = x := Int.toNat_of_nonneg h

theorem and_pow {x : Int} (i : Nat) (hx : W64 x) (hi : i < 64) : Go.bits .and .u64 x (((2 ^ i : Nat) : Int)) = x / ((2 ^ i : Nat) : Int) % 2 * ((2 ^ i : Nat) : Int) := by
  have hp : (2 ^ i : Nat) < 18446744073709551616 := by
    have := Nat.pow_lt_pow_right (a := 2) (by decide) hi
    omega
  rw [u64_and x _ hx.1 hx.2 (Int.natCast_nonneg _) (by omega), Int.toNat_natCast, nat_bit]
  rw [Int.natCast_mul, Int.natCast_emod, Int.natCast_ediv, toNat_cast hx.1]; rfl

theorem and_mask {x : Int} (i : Nat) (hx : W64 x) (hi : i ≤ 64) : Go.bits .and .u64 x (((2 ^ i - 1 : Nat) : Int)) = x % ((2 ^ i : Nat) : Int) := by
  have hp : (2 ^ i : Nat) ≤ 18446744073709551616 := by
    have := Nat.pow_le_pow_right (n := 2) (by decide) hi
    omega
  have hp0 : 0 < (2 ^ i : Nat) := Nat.two_pow_pos i
  rw [u64_and x _ hx.1 hx.2 (Int.natCast_nonneg _) (by omega), Int.toNat_natCast, Nat.and_two_pow_sub_one_eq_mod, Int.natCast_emod, toNat_cast hx.1]

theorem or_pow {x : Int} (i : Nat) (hx : 0 ≤ x) (h : x < ((2 ^ i : Nat) : Int)) (hi : i < 64) : Go.bits .or .u64 x (((2 ^ i : Nat) : Int)) = x + ((2 ^ i : Nat) : Int) := by
  have hp : (2 ^ i : Nat) < 18446744073709551616 := by
    have := Nat.pow_lt_pow_right (a := 2) (by decide) hi
    omega
  rw [u64_or x _ hx (by omega) (Int.natCast_nonneg _) (by omega), Int.toNat_natCast, Nat.or_comm, nat_join i _ _ (Nat.mod_self _) (by omega), Int.natCast_add, toNat_cast hx]
  omega

theorem or_join {x y : Int} (i : Nat) (hx0 : 0 ≤ x) (hx1 : x < 18446744073709551616) (hx : x % ((2 ^ i : Nat) : Int) = 0) (hy0 : 0 ≤ y) (hy1 : y < 18446744073709551616) (h : y < ((2 ^ i : Nat) : Int)) : Go.bits .or .u64 x y = x + y := by
  have e : x.toNat % 2 ^ i = 0 := by
    have := Int.natCast_emod x.toNat (2 ^ i)
    rw [toNat_cast hx0] at this
    omega
  rw [u64_or x y hx0 hx1 hy0 hy1, nat_join i _ _ e (by omega), Int.natCast_add, toNat_cast hx0, toNat_cast hy0]

theorem and_sign {x : Int} (hx : W64 x) : Go.bits .and .u64 x 9223372036854775808 = if x < 9223372036854775808 then 0 else 9223372036854775808 := by
  have h := and_pow 63 hx (by decide)
  have e : ((2 ^ 63 : Nat) : Int) = 9223372036854775808 := by decide
  rw [e] at h; rw [h]; unfold W64 at hx
  split <;> omega

theorem and_quiet {x : Int} (hx : W64 x) : Go.bits .and .u64 x 2251799813685248 = x / 2251799813685248 % 2 * 2251799813685248 := by
  have h := and_pow 51 hx (by decide)
  have e : ((2 ^ 51 : Nat) : Int) = 2251799813685248 := by decide
  rw [e] at h; exact h

theorem and_2047 {x : Int} (hx : W64 x) : Go.bits .and .u64 x 2047 = x % 2048 := by
  have h := and_mask 11 hx (by decide)
  have e : ((2 ^ 11 : Nat) : Int) = 2048 := by decide
  have e' : ((2 ^ 11 - 1 : Nat) : Int) = 2047 := by decide
  rw [e, e'] at h; exact h

theorem and_1 {x : Int} (hx : W64 x) : Go.bits .and .u64 x 1 = x % 2 := by
  have h := and_mask 1 hx (by decide)
  have e : ((2 ^ 1 : Nat) : Int) = 2 := by decide
  have e' : ((2 ^ 1 - 1 : Nat) : Int) = 1 := by decide
  rw [e, e'] at h; exact h

theorem and_frac {x : Int} (hx : W64 x) : Go.bits .and .u64 x 4503599627370495 = x % 4503599627370496 := by
  have h := and_mask 52 hx (by decide)
  have e : ((2 ^ 52 : Nat) : Int) = 4503599627370496 := by decide
  have e' : ((2 ^ 52 - 1 : Nat) : Int) = 4503599627370495 := by decide
  rw [e, e'] at h; exact h

theorem or_one52 {x : Int} (h0 : 0 ≤ x) (h1 : x < 4503599627370496) : Go.bits .or .u64 x 4503599627370496 = x + 4503599627370496 := by
  have e : ((2 ^ 52 : Nat) : Int) = 4503599627370496 := by decide
  have h := or_pow 52 h0 (by rw [e]; exact h1) (by decide)
  rw [e] at h; exact h

theorem or_sign {x : Int} (h0 : 0 ≤ x) (h1 : x < 9223372036854775808) : Go.bits .or .u64 x 9223372036854775808 = x + 9223372036854775808 := by
  have e : ((2 ^ 63 : Nat) : Int) = 9223372036854775808 := by decide
  have h := or_pow 63 h0 (by rw [e]; exact h1) (by decide)
  rw [e] at h; exact h

theorem andNot_sign {x : Int} (hx : W64 x) : Go.bits .andNot .u64 x 9223372036854775808 = x % 9223372036854775808 := by
  have h := and_mask 63 hx (by decide)
  have e : ((2 ^ 63 : Nat) : Int) = 9223372036854775808 := by decide
  have e' : ((2 ^ 63 - 1 : Nat) : Int) = 9223372036854775807 := by decide
  rw [e, e'] at h; rw [← h]
  rw [u64_andNot x _ hx.1 hx.2 (by decide) (by decide), u64_and x _ hx.1 hx.2 (by decide) (by decide)]
  rfl

theorem xor_sign {x : Int} (hx : W64 x) : Go.bits .xor .u64 x 9223372036854775808 = if x < 9223372036854775808 then x + 9223372036854775808 else x - 9223372036854775808 := by
  rw [u64_xor x _ hx.1 hx.2 (by decide) (by decide)]
  have hx0 := hx.1; have hx1 := hx.2
  obtain ⟨n, rfl⟩ := Int.eq_ofNat_of_zero_le hx0
  have e : (9223372036854775808 : Int).toNat = 2 ^ 63 := by decide
  rw [Int.toNat_natCast, e]
  have hn : n < 2 ^ 64 := by omega
  have h2 : n ^^^ 2 ^ 63 = if n < 2 ^ 63 then n + 2 ^ 63 else n - 2 ^ 63 := by
    have hb : ∀ m : Nat, m < 2 ^ 63 → m ^^^ 2 ^ 63 = m + 2 ^ 63 := by
      intro m hm
      rw [Nat.xor_comm]
      have := Nat.two_pow_add_eq_or_of_lt hm 1
      rw [Nat.mul_one] at this
      rw [Nat.add_comm, this]
      apply Nat.eq_of_testBit_eq
      intro i
      rw [Nat.testBit_xor, Nat.testBit_or]
      rw [Nat.testBit_two_pow]
      by_cases hi : 63 = i
      · subst hi
        rw [Nat.testBit_lt_two_pow hm]; simp
      · simp [hi]
    split
    · rename_i h; exact hb n h
    · rename_i h
      have := hb (n - 2 ^ 63) (by omega)
      have e2 : n - 2 ^ 63 + 2 ^ 63 = n := by omega
      rw [e2] at this
      have h3 : (n - 2 ^ 63) ^^^ 2 ^ 63 ^^^ 2 ^ 63 = n ^^^ 2 ^ 63 := by rw [this]
      rw [Nat.xor_assoc, Nat.xor_self, Nat.xor_zero] at h3
      exact h3.symm
  rw [h2]
  split <;> split <;> omega

theorem xor_all {x : Int} (hx : W64 x) : Go.bits .xor .u64 18446744073709551615 x = 18446744073709551615 - x := by
  rw [u64_xor _ x (by decide) (by decide) hx.1 hx.2]
  have hx0 := hx.1; have hx1 := hx.2
  obtain ⟨n, rfl⟩ := Int.eq_ofNat_of_zero_le hx0
  rw [Int.toNat_natCast]
  have hn : n < 2 ^ 64 := by omega
  have e : (18446744073709551615 : Int).toNat = 2 ^ 64 - 1 := by decide
  rw [e]
  have h2 : (2 ^ 64 - 1) ^^^ n = 2 ^ 64 - 1 - n := by
    apply Nat.eq_of_testBit_eq
    intro i
    rw [Nat.testBit_xor, Nat.testBit_two_pow_sub_one, show 2 ^ 64 - 1 - n = 2 ^ 64 - (n + 1) from by omega, Nat.testBit_two_pow_sub_succ hn]
    by_cases hi : i < 64
    · simp [hi]
    · have : n.testBit i = false := Nat.testBit_lt_two_pow (Nat.lt_of_lt_of_le hn (Nat.pow_le_pow_right (by decide) (by omega)))
      simp [hi, this]
  rw [h2]; omega

end Go.Proofs.Ytcigeggdapjijaa.Pure
