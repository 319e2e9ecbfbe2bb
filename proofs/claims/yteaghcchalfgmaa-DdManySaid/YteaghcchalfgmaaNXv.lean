/- A float by itself: it may be reckoned with where its amount lies within the bounds. Plain numbers: no program. -/
import Derived.Test.YteaghcchalfgmaaNXu
namespace Go.Proofs.Yteaghcchalfgmaa.Nm
open Ieee
set_option linter.unusedVariables false
set_option maxRecDepth 10000

theorem near_exact (s : Bool) {x m k : Nat} (h1 : 4503599627370496 ≤ rg x) (h2 : rg x < 9218868437227405312) (hm : m = 4503599627370496 + rg x % 4503599627370496) (hk : k = rg x / 4503599627370496 - 1) :
    double.nearest s (m * 2 ^ k) (-1074) = double.word s (rg x) := by
  have hm1 : 4503599627370496 ≤ m := by omega
  have hm2 : m < 9007199254740992 := by omega
  have hp := Nat.two_pow_pos k
  have h0 : m * 2 ^ k ≠ 0 := Nat.ne_of_gt (Nat.mul_pos (by omega) hp)
  have hlog : (m * 2 ^ k).log2 = 52 + k := by
    have a1 : 2 ^ (52 + k) ≤ m * 2 ^ k := by rw [Nat.pow_add]; exact Nat.mul_le_mul_right _ hm1
    have a2 : m * 2 ^ k < 2 ^ (53 + k) := by rw [Nat.pow_add]; exact Nat.mul_lt_mul_of_pos_right hm2 hp
    have b1 : 2 ^ (52 + k) < 2 ^ ((m * 2 ^ k).log2 + 1) := Nat.lt_of_le_of_lt a1 lt_log
    have b2 : 2 ^ (m * 2 ^ k).log2 < 2 ^ (53 + k) := Nat.lt_of_le_of_lt (log_le h0) a2
    have c1 := (Nat.pow_lt_pow_iff_right (a := 2) (by decide)).1 b1
    have c2 := (Nat.pow_lt_pow_iff_right (a := 2) (by decide)).1 b2
    omega
  unfold Format.nearest
  rw [fb_, lp_, bn_, ir_, if_neg h0]
  dsimp only
  rw [hlog]
  have hl : max (-1074 + ((52 + k : Nat) : Int) - ((52 : Nat) : Int)) (-1074) = -1074 + (k : Int) := by omega
  rw [hl]
  have e1 : (-1074 - (-1074 + (k : Int))).toNat = 0 := by omega
  have e2 : (-1074 + (k : Int) - -1074).toNat = k := by omega
  rw [e1, e2, shl_, Nat.pow_zero, Nat.mul_one]
  have hc : Toward.even.cut s (m * 2 ^ k) k = m := by
    obtain ⟨c1, c2⟩ := cut_err s (m * 2 ^ k) k
    generalize Toward.even.cut s (m * 2 ^ k) k = q at *
    have d1 : (2 * q) * 2 ^ k ≤ (2 * m + 1) * 2 ^ k := by rw [Nat.add_mul, Nat.one_mul, Nat.mul_assoc, Nat.mul_assoc]; exact c1
    have d2 : (2 * m) * 2 ^ k ≤ (2 * q + 1) * 2 ^ k := by rw [Nat.add_mul, Nat.one_mul, Nat.mul_assoc, Nat.mul_assoc]; exact c2
    have f1 := Nat.le_of_mul_le_mul_right d1 hp
    have f2 := Nat.le_of_mul_le_mul_right d2 hp
    omega
  rw [hc]
  have e3 : k * 4503599627370496 + m = rg x := by omega
  rw [e3, Nat.min_eq_left (by omega)]

theorem keeps_one {x : Nat} (h1 : 4503599627370496 ≤ rg x) (h2 : rg x < 9218868437227405312) : keeps x 0 = true := by
  obtain ⟨m, k, e, c⟩ := read_fin h2
  have hc : m = 4503599627370496 + rg x % 4503599627370496 ∧ k = rg x / 4503599627370496 - 1 := by
    rcases c with ⟨a, rfl, rfl⟩ | ⟨a, rfl, rfl⟩
    · omega
    · exact ⟨rfl, rfl⟩
  have e0 : double.read 0 = .number false 0 (-1074) := by decide
  have hz : fA x 0 = some (double.word (sg x) (rg x)) := by
    show ((double.read x).sum (double.read 0)).map double.write = _
    rw [e, e0]
    show some (double.nearest (if signed (sg x) m ((-1074 + (k : Int) - min (-1074 + (k : Int)) (-1074)).toNat) + signed false 0 ((-1074 - min (-1074 + (k : Int)) (-1074)).toNat) = 0 then (sg x && false) else decide (signed (sg x) m ((-1074 + (k : Int) - min (-1074 + (k : Int)) (-1074)).toNat) + signed false 0 ((-1074 - min (-1074 + (k : Int)) (-1074)).toNat) < 0)) (signed (sg x) m ((-1074 + (k : Int) - min (-1074 + (k : Int)) (-1074)).toNat) + signed false 0 ((-1074 - min (-1074 + (k : Int)) (-1074)).toNat)).natAbs (min (-1074 + (k : Int)) (-1074))) = _
    have hb : min (-1074 + (k : Int)) (-1074) = -1074 := by omega
    have e1 : (-1074 + (k : Int) - (-1074)).toNat = k := by omega
    have z : signed false 0 ((-1074 - (-1074) : Int).toNat) = 0 := by decide
    rw [hb, e1, z, Int.add_zero, natAbs_signed]
    have hpos : 0 < m * 2 ^ k := Nat.mul_pos (by omega) (Nat.two_pow_pos k)
    have hs : (if signed (sg x) m k = 0 then (sg x && false) else decide (signed (sg x) m k < 0)) = sg x := by
      unfold signed
      rw [shl_]
      cases sg x
      · simp only [Bool.false_eq_true, if_false]
        rw [if_neg (by omega)]
        exact decide_eq_false (by omega)
      · simp only [if_true]
        rw [if_neg (by omega)]
        exact decide_eq_true (by omega)
    rw [hs, near_exact (sg x) h1 h2 hc.1 hc.2]
  rw [keeps_some hz]
  obtain ⟨w1, w2, -⟩ := word_rg (sg x) (r := rg x) (rg_lt x)
  show (double.order _ x == some .eq) = true
  rw [order_key (by rw [w1]; omega) (by omega), cmp_eq]
  refine decide_eq_true ?_
  unfold Ky; rw [w1, w2]

theorem rt_one (x : Nat) : Rt x 0 = (decide (rg x = 0) || decide (3256102530588868608 ≤ rg x ∧ rg x ≤ 5958262307011166208)) := by
  unfold Rt
  have e0 : rg 0 = 0 := rfl
  rw [show decide (rg x = 0 ∧ rg 0 = 0) = decide (rg x = 0) from decide_eq_decide.2 (by rw [e0]; omega)]
  by_cases q : 3256102530588868608 ≤ rg x ∧ rg x ≤ 5958262307011166208
  · rw [keeps_one (by omega) (by omega), Bool.and_true]
  · rw [decide_eq_false q]; rfl
end Go.Proofs.Yteaghcchalfgmaa.Nm
