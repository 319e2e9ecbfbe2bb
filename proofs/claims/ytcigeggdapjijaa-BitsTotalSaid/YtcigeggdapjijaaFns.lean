/- What the printed functions of package bits and of its reference come to, as plain arithmetic. -/
import Derived.Test.YtcigeggdapjijaaBits
namespace Go.Proofs.Ytcigeggdapjijaa.Pure
open Go.RowKit Go.Proofs.Ytcigeggdapjijaa.PAll Go.Proofs.YtcigeggdapjijaaW.PrintWords Go.Proofs.YtcigeggdapjijaaW.PrintLast Go.Proofs.YtcigeggdapjijaaW.PrintMore
set_option linter.unusedVariables false
set_option linter.unusedSimpArgs false

def am (x : Int) : Int := x % 9223372036854775808
def pl (x : Int) : Int := if x < 9223372036854775808 then x else -(x % 9223372036854775808)
def isNum (x : Int) : Prop := x % 9223372036854775808 ≤ 9218868437227405312
def isFin (x : Int) : Prop := x % 9223372036854775808 < 9218868437227405312
instance (x : Int) : Decidable (isNum x) := inferInstanceAs (Decidable (_ ≤ _))
instance (x : Int) : Decidable (isFin x) := inferInstanceAs (Decidable (_ < _))
def ex (x : Int) : Int := x / 4503599627370496 % 2048
def fr (x : Int) : Int := x % 4503599627370496
def up (x : Int) : Int := if isNum x then (if x = 9218868437227405312 then x else if x % 9223372036854775808 = 0 then 1 else if x < 9223372036854775808 then x + 1 else x - 1) else x
def ng (x : Int) : Int := if x < 9223372036854775808 then x + 9223372036854775808 else x - 9223372036854775808
def down (x : Int) : Int := if isNum x then (if x = 18442240474082181120 then x else if x % 9223372036854775808 = 0 then 9223372036854775809 else if x < 9223372036854775808 then x - 1 else x + 1) else x
def steps (x y : Int) : Int × Int := if isNum x ∧ isNum y then (if pl y < pl x then (0, 2) else (pl y - pl x, 0)) else (0, 5)
def ord (x y : Int) : Int := if x = y then 0 else if x ≥ 9223372036854775808 then (if y ≥ 9223372036854775808 then (if x > y then -1 else 1) else -1) else if y ≥ 9223372036854775808 then 1 else if x < y then -1 else 1
def last (x : Int) : Int × Int := if isFin x then ((if ex x = 0 then 1 else ex x) - 1075, 0) else (0, 5)
def mant (x : Int) : Int := if ex x = 0 then fr x else fr x + 4503599627370496
def expo (x : Int) : Int := if ex x = 0 then -1074 else ex x - 1075
def cls (x : Int) : Int := if ex x = 0 then (if fr x = 0 then 1 else 2) else if ex x < 2047 then 3 else if fr x = 0 then 4 else if fr x ≥ 2251799813685248 then 5 else 6
def whole (x : Int) : Bool := decide (isFin x ∧ (mant x = 0 ∨ expo x ≥ 0 ∨ mant x % 2 ^ (-expo x).toNat = 0))
def odd (x : Int) : Bool := whole x && decide (expo x ≤ 0 ∧ mant x / 2 ^ (-expo x).toNat % 2 = 1)

theorem amount_eq {x : Int} (hx : W64 x) : bits_amount.f x = some (am x) := by
  unfold bits_amount.f am; rw [andNot_sign hx]
theorem number_eq {x : Int} (hx : W64 x) : bits_number.f x = some (decide (isNum x)) := by
  unfold bits_number.f; rw [amount_eq hx]; rfl
theorem finite_eq {x : Int} (hx : W64 x) : bits_finite.f x = some (decide (isFin x)) := by
  unfold bits_finite.f; rw [amount_eq hx]; rfl
theorem place_eq {x : Int} (hx : W64 x) : bits_place.f x = some (pl x) := by
  have h0 := hx.1; have h1 := hx.2
  unfold bits_place.f; rw [amount_eq hx, and_sign hx]; simp only [Option.bind_some]; unfold pl am wrap64
  by_cases h : x < 9223372036854775808
  · rw [if_pos h, if_pos rfl, if_pos h]; congr 1; omega
  · rw [if_neg h, if_neg (by decide), if_neg h]; congr 1; omega
theorem pl_bd {x : Int} (hx : W64 x) : -9223372036854775808 < pl x ∧ pl x < 9223372036854775808 := by
  have h0 := hx.1; have h1 := hx.2
  unfold pl; split <;> omega
theorem steps_eq {k : Nat} {x y : Int} (hk : 1 ≤ k) (hx : W64 x) (hy : W64 y) : bits_Steps.f k x y = some (steps x y) := by
  obtain ⟨k, rfl⟩ : ∃ m, k = m + 1 := ⟨k - 1, by omega⟩
  unfold bits_Steps.f steps; rw [number_eq hx, number_eq hy]; simp only [Option.bind_some, bits_Steps.j0]
  rw [place_eq hx, place_eq hy]; simp only [Option.bind_some]
  have a := pl_bd hx; have b := pl_bd hy
  by_cases h : isNum x
  · by_cases h2 : isNum y
    · simp only [h, h2, decide_true, Bool.not_true, if_true, and_self, Bool.false_eq_true, if_false]
      by_cases h3 : pl y < pl x
      · rw [if_pos h3, if_pos h3]
      · rw [if_neg h3, if_neg h3]; simp only [IntKind.wrap_u64]; congr 2; omega
    · simp [h, h2]
  · simp [h]
theorem up_eq {k : Nat} {x : Int} (hk : 1 ≤ k) (hx : W64 x) : bits_Up.f k x = some (up x) := by
  obtain ⟨k, rfl⟩ : ∃ m, k = m + 1 := ⟨k - 1, by omega⟩
  have h0 := hx.1; have h1 := hx.2
  unfold bits_Up.f up; rw [number_eq hx]; simp only [Option.bind_some, bits_Up.j0]
  rw [amount_eq hx, and_sign hx]; simp only [Option.bind_some, am]
  by_cases h : isNum x
  · simp only [h, decide_true, if_true]
    by_cases h2 : x = 9218868437227405312
    · simp [h2]
    · rw [if_neg (by simpa using h2), if_neg h2]
      by_cases h3 : x % 9223372036854775808 = 0
      · rw [if_pos h3, if_pos h3]
      · rw [if_neg h3, if_neg h3]
        simp only [IntKind.wrap_u64]
        by_cases h4 : x < 9223372036854775808
        · simp only [h4, if_true]; congr 1; omega
        · simp only [h4, if_false]; rw [if_neg (by decide)]; congr 1; omega
  · simp [h]
theorem down_eq {k : Nat} {x : Int} (hk : 1 ≤ k) (hx : W64 x) : bits_Down.f k x = some (down x) := by
  obtain ⟨k, rfl⟩ : ∃ m, k = m + 1 := ⟨k - 1, by omega⟩
  have h0 := hx.1; have h1 := hx.2
  unfold bits_Down.f down; rw [number_eq hx]; simp only [Option.bind_some, bits_Down.j0]
  rw [amount_eq hx, and_sign hx]; simp only [Option.bind_some, am]
  by_cases h : isNum x
  · have h' : x % 9223372036854775808 ≤ 9218868437227405312 := h
    simp only [h, decide_true, if_true]
    by_cases h2 : x = 18442240474082181120
    · simp [h2]
    · rw [if_neg (by simpa using h2), if_neg h2]
      by_cases h3 : x % 9223372036854775808 = 0
      · rw [if_pos h3, if_pos h3]
      · rw [if_neg h3, if_neg h3]
        simp only [IntKind.wrap_u64]
        by_cases h4 : x < 9223372036854775808
        · simp only [h4, if_true]; congr 1; omega
        · simp only [h4, if_false]; rw [if_neg (by decide)]; congr 1; omega
  · simp [h]
theorem neg_eq {x : Int} (hx : W64 x) : bits_Neg.f x = some (ng x) := by
  unfold bits_Neg.f ng; rw [xor_sign hx]
theorem abs_eq {x : Int} (hx : W64 x) : bits_Abs.f x = some (am x) := by
  unfold bits_Abs.f; rw [amount_eq hx]; rfl
theorem turned_eq {x : Int} (hx : W64 x) : bits_turned.f x = some (if x < 9223372036854775808 then x + 9223372036854775808 else 18446744073709551615 - x) := by
  have h0 := hx.1; have h1 := hx.2
  unfold bits_turned.f; rw [and_sign hx, xor_all hx]
  by_cases h : x < 9223372036854775808
  · rw [if_pos h, if_pos rfl, if_pos h, or_sign h0 h]
  · rw [if_neg h, if_neg (by decide), if_neg h]
theorem order_eq {x y : Int} (hx : W64 x) (hy : W64 y) : bits_Order.f x y = some (ord x y) := by
  have h0 := hx.1; have h1 := hx.2; have h2 := hy.1; have h3 := hy.2
  unfold bits_Order.f ord; rw [turned_eq hx, turned_eq hy]; simp only [Option.bind_some]
  by_cases a : x < 9223372036854775808 <;> by_cases b : y < 9223372036854775808 <;> simp only [a, b, if_true, if_false] <;> (repeat' split) <;> first | rfl | omega
theorem less_eq {x y : Int} (hx : W64 x) (hy : W64 y) : bits_Less.f x y = some (decide (isNum x ∧ isNum y ∧ pl x < pl y)) := by
  unfold bits_Less.f; rw [number_eq hx, number_eq hy, place_eq hx, place_eq hy]; simp only [Option.bind_some]
  by_cases a : isNum x <;> by_cases b : isNum y <;> simp [a, b]
theorem split_eq {x : Int} (hx : W64 x) : bits_Split.f x = some (decide (9223372036854775808 ≤ x), ex x, fr x) := by
  have h0 := hx.1; have h1 := hx.2
  unfold bits_Split.f; rw [and_sign hx, and_2047 (by unfold W64; omega), and_frac hx, wrapS (by omega) (by omega)]
  unfold ex fr
  by_cases h : x < 9223372036854775808
  · rw [if_pos h]; simp; omega
  · rw [if_neg h]; simp; omega
theorem ex_bd {x : Int} (hx : W64 x) : 0 ≤ ex x ∧ ex x ≤ 2047 := by unfold ex; omega
theorem fr_bd {x : Int} (hx : W64 x) : 0 ≤ fr x ∧ fr x < 4503599627370496 := by unfold fr; omega
theorem isFin_iff {x : Int} (hx : W64 x) : isFin x ↔ ex x < 2047 := by have := hx.1; have := hx.2; unfold isFin ex; omega
theorem last_eq {x : Int} (hx : W64 x) : bits_Last.f x = some (last x) := by
  have b := ex_bd hx
  unfold bits_Last.f last; rw [finite_eq hx, split_eq hx]; simp only [Option.bind_some]
  by_cases h : isFin x
  · simp only [h, decide_true, if_true]; unfold mx
    rw [wrapS (by split <;> omega) (by split <;> omega)]
    split <;> split <;> first | rfl | omega
  · simp [h]
theorem parts_eq {x : Int} (hx : W64 x) (h : isFin x) : bits_parts.f x = some (mant x, expo x) := by
  have b := ex_bd hx; have c := fr_bd hx
  unfold bits_parts.f mant expo; rw [split_eq hx, last_eq hx]; simp only [Option.bind_some, last, h, if_true]
  by_cases e : ex x = 0
  · rw [if_neg (by omega), if_pos e, if_pos e, if_pos e]; rfl
  · rw [if_pos (by omega), if_neg e, if_neg e, if_neg e, or_one52 c.1 c.2]
theorem class_eq {k : Nat} {x : Int} (hk : 2 ≤ k) (hx : W64 x) : bits_Class.f k x = some (cls x) := by
  obtain ⟨k, rfl⟩ : ∃ m, k = m + 2 := ⟨k - 2, by omega⟩
  have b := ex_bd hx; have c := fr_bd hx
  unfold bits_Class.f cls; rw [split_eq hx]; simp only [Option.bind_some, bits_Class.j0, bits_Class.j1]
  rw [and_quiet (by unfold W64; omega)]
  by_cases e : ex x = 2047
  · by_cases f : fr x = 0
    · simp [e, f]
    · by_cases g : fr x ≥ 2251799813685248
      · have h1 : ¬ fr x / 2251799813685248 % 2 * 2251799813685248 = 0 := by omega
        have h1' : (fr x / 2251799813685248 % 2 * 2251799813685248 != 0) = true := by simpa using h1
        rw [h1']; simp [e, f]; omega
      · have h1 : fr x / 2251799813685248 % 2 * 2251799813685248 = 0 := by omega
        rw [h1]; simp [e, f]; omega
  · simp only [e, if_false, Bool.false_eq_true]
    by_cases z : ex x = 0
    · rw [if_neg (by omega), if_pos z]
      by_cases f : fr x = 0
      · rw [if_neg (by omega), if_pos f]
      · rw [if_pos (by omega), if_neg f]
    · rw [if_pos (by omega), if_neg z, if_pos (by omega)]
theorem mant_bd {x : Int} (hx : W64 x) : 0 ≤ mant x ∧ mant x < 9007199254740992 := by
  have c := fr_bd hx; unfold mant; split <;> omega
theorem expo_bd {x : Int} (hx : W64 x) (h : isFin x) : -1074 ≤ expo x ∧ expo x ≤ 971 := by
  have b := ex_bd hx; have := (isFin_iff hx).1 h; unfold expo; split <;> omega
theorem pow_le {a b : Nat} (h : a ≤ b) : (2 : Int) ^ a ≤ 2 ^ b := by
  have := Nat.pow_le_pow_right (n := 2) (by decide) h
  exact_mod_cast this
theorem pow_pos (a : Nat) : (0 : Int) < 2 ^ a := by
  have := Nat.two_pow_pos a
  exact_mod_cast this
theorem mod_small {m : Int} {n : Nat} (h0 : 0 < m) (h1 : m < 9007199254740992) (h : 53 ≤ n) : m % 2 ^ n ≠ 0 ∧ m / 2 ^ n = 0 := by
  have := pow_le h
  have e : (2 : Int) ^ 53 = 9007199254740992 := by decide
  rw [e] at this
  exact ⟨by rw [Int.emod_eq_of_lt (by omega) (by omega)]; omega, Int.ediv_eq_zero_of_lt (by omega) (by omega)⟩
theorem and_low {m : Int} {n : Nat} (hm : W64 m) (hn : n < 64) : Go.bits .and .u64 m (IntKind.u64.wrap (shl .u64 1 n - 1)) = m % 2 ^ n := by
  have h := and_mask n hm (by omega)
  have hp := Nat.pow_lt_pow_right (a := 2) (by decide) hn
  have hp0 := Nat.two_pow_pos n
  have e : ((2 ^ n : Nat) : Int) = 2 ^ n := by simp
  have e2 : IntKind.u64.wrap (shl .u64 1 n - 1) = ((2 ^ n - 1 : Nat) : Int) := by
    unfold shl
    have : min ((n : Int).toNat) IntKind.u64.bits = n := by
      simp [IntKind.bits]; omega
    rw [this, Int.one_mul, ← e]
    rw [wrapU (x := ((2 ^ n : Nat) : Int)) (by omega) (by omega), wrapU (by omega) (by omega)]
    omega
  rw [e2, h, e]
theorem shr_eq {m : Int} {n : Nat} (hn : n < 64) : shr .u64 m n = m / 2 ^ n := by
  unfold shr
  have : min ((n : Int).toNat) IntKind.u64.bits = n := by
    simp [IntKind.bits]; omega
  rw [this]
theorem whole_eq {x : Int} (hx : W64 x) : bits_Whole.f x = some (whole x) := by
  unfold bits_Whole.f whole; rw [finite_eq hx]; simp only [Option.bind_some]
  by_cases h : isFin x
  · have a := mant_bd hx; have b := expo_bd hx h
    rw [parts_eq hx h]; simp only [h, decide_true, if_true, Option.bind_some, true_and]
    by_cases z : mant x = 0
    · simp [z]
    · rw [if_neg z]
      by_cases e : expo x ≥ 0
      · rw [if_pos e]; simp [e]
      · rw [if_neg e]
        by_cases g : expo x > -64
        · rw [if_pos g, wrapS (by omega) (by omega), if_pos (by omega)]
          obtain ⟨n, hn⟩ : ∃ n : Nat, -expo x = n := ⟨(-expo x).toNat, by omega⟩
          rw [hn, and_low (by unfold W64; omega) (by omega), Int.toNat_natCast]
          congr 1; rw [Bool.eq_iff_iff]; simp [z, e]
        · rw [if_neg g]
          have := (mod_small (n := (-expo x).toNat) (by omega) a.2 (by omega)).1
          simp [z, e, this]
  · simp [h]
theorem odd_eq {x : Int} (hx : W64 x) : bits_Odd.f x = some (odd x) := by
  unfold bits_Odd.f odd; rw [whole_eq hx]; simp only [Option.bind_some]
  by_cases w : whole x = true
  · have h : isFin x := by unfold whole at w; exact (of_decide_eq_true w).1
    have a := mant_bd hx; have b := expo_bd hx h
    rw [parts_eq hx h]; simp only [w, if_true, Option.bind_some, Bool.true_and]
    by_cases e : expo x ≤ 0
    · rw [if_pos e]
      by_cases g : expo x > -64
      · rw [if_pos g, wrapS (by omega) (by omega), if_pos (by omega)]
        obtain ⟨n, hn⟩ : ∃ n : Nat, -expo x = n := ⟨(-expo x).toNat, by omega⟩
        have hp := pow_pos n
        have hq : 0 ≤ mant x / 2 ^ n := Int.ediv_nonneg a.1 (by omega)
        have hq2 : mant x / 2 ^ n ≤ mant x := Int.ediv_le_self _ a.1
        rw [hn, shr_eq (by omega), and_1 (by unfold W64; omega), Int.toNat_natCast]
        congr 1; rw [Bool.eq_iff_iff]; simp [e]
      · rw [if_neg g]
        by_cases z : mant x = 0
        · simp [z]
        · have := (mod_small (n := (-expo x).toNat) (by omega) a.2 (by omega)).2
          simp [this]
    · rw [if_neg e]; simp [e]
  · simp [w]

theorem lives_eq {k : Nat} (hk : 4 ≤ k) : ulplaw01_lives.f k = some true :=
  at_rounds ulplaw01_lives.mono hk (by decide +kernel)
theorem isNumber_eq {k : Nat} {x : Int} (hk : 2 ≤ k) (hx : W64 x) : ulplaw01_isNumber.f k x = some (decide (isNum x)) := by
  unfold ulplaw01_isNumber.f; rw [class_eq hk hx]; simp only [Option.bind_some]
  have h0 := hx.1; have h1 := hx.2
  have hf := isFin_iff hx
  have hn : isNum x ↔ ex x < 2047 ∨ fr x = 0 := by unfold isNum ex fr; omega
  have b := ex_bd hx; have c := fr_bd hx
  unfold cls
  by_cases e : ex x = 2047
  · have e1 : ¬ ex x = 0 := by omega
    have e2 : ¬ ex x < 2047 := by omega
    simp only [if_neg e1, if_neg e2]
    by_cases f : fr x = 0
    · rw [if_pos f]; simp [hn, f]
    · rw [if_neg f]
      by_cases g : fr x ≥ 2251799813685248
      · rw [if_pos g]; simp [hn, e, f]
      · rw [if_neg g]; simp [hn, e, f]
  · have : ex x < 2047 := by omega
    by_cases z : ex x = 0
    · rw [if_pos z]
      by_cases f : fr x = 0
      · rw [if_pos f]; simp [hn, this]
      · rw [if_neg f]; simp [hn, this]
    · rw [if_neg z, if_pos this]; simp [hn, this]
end Go.Proofs.Ytcigeggdapjijaa.Pure
