/- Plain part. -/
import Derived.Test.YtnjfckadjklmfaaDoorXRoundPointsN0
import Derived.Test.YtnjfckadjklmfaaDoorXRoundPointsP0
import Derived.Test.YtnjfckadjklmfaaDoorXRoundPointsP1
import Derived.Test.YtnjfckadjklmfaaDoorXRoundPointsP4
import Derived.Test.YtnjfckadjklmfaaDoorXRoundPointsP15
import Derived.Test.YtnjfckadjklmfaaDoorXRoundPointsP8
import Derived.Test.YtnjfckadjklmfaaDoorXRoundPointsP10
import Derived.Test.YtnjfckadjklmfaaDoorXRoundPointsP16
import Derived.Test.YtnjfckadjklmfaaDoorXRoundPointsP9
import Derived.Test.YtnjfckadjklmfaaDoorXRoundPointsP7
import Derived.Test.YtnjfckadjklmfaaDoorXRoundPointsP17
import Derived.Test.YtnjfckadjklmfaaDoorXRoundPointsP18
import Derived.Test.YtnjfckadjklmfaaDoorXRoundPointsP11
import Derived.Test.YtnjfckadjklmfaaDoorXRoundPointsP12
namespace Go.Proofs.YtnjfckadjklmfaaDoor.Nf
open Go.RowKit Go.Proofs.YtnjfckadjklmfaaDoor.PAll Go.Proofs.YtnjfckadjklmfaaDoorW.PrintWords Go.Proofs.YtnjfckadjklmfaaDoorW.PrintLast Go.Proofs.YtnjfckadjklmfaaDoorW.PrintMore Go.Proofs.YtnjfckadjklmfaaDoor.Nm
set_option linter.unusedVariables false
set_option linter.unusedSimpArgs false
theorem low_form (v : Nat) (h : v ≠ 0) : ∃ t m, v = 2 ^ t * (2 * m + 1) := by
 induction v using Nat.strongRecOn with
 | _ v ih =>
  by_cases g : v % 2 = 1
  ·exact ⟨0, v / 2, by rw [Nat.pow_zero]; omega⟩
  obtain ⟨t, m, e⟩ := ih (v / 2) (by omega) (by omega)
  exact ⟨t + 1, m, by rw [Nat.pow_succ, Nat.mul_right_comm, ← e]; omega⟩
theorem low_bit (t m n : Nat) (h : n ≤ t) : (2 ^ t * (2 * m + 1)) / 2 ^ n % 2 = if n = t then 1 else 0 := by
 have hp : 0 < 2 ^ n := Nat.pow_pos (by decide)
 obtain ⟨d, rfl⟩ : ∃ d, t = n + d := ⟨t - n, by omega⟩
 rw [Nat.pow_add, Nat.mul_assoc, Nat.mul_div_cancel_left _ hp]
 by_cases g : d = 0
 ·subst g; rw [if_pos (by omega), Nat.pow_zero]; omega
 rw [if_neg (by omega)]
 obtain ⟨e, rfl⟩ : ∃ e, d = e + 1 := ⟨d - 1, by omega⟩
 rw [Nat.pow_succ, Nat.mul_right_comm]; omega
theorem low_unique {t m s n : Nat} (h : 2 ^ t * (2 * m + 1) = 2 ^ s * (2 * n + 1)) : t = s := by
 rcases Nat.lt_trichotomy t s with g | g | g
 ·have a := low_bit t m t (Nat.le_refl _)
  have b := low_bit s n t (Nat.le_of_lt g)
  rw [h, b, if_neg (Nat.ne_of_lt g), if_pos rfl] at a; omega
 ·exact g
 have a := low_bit s n s (Nat.le_refl _)
 have b := low_bit t m s (Nat.le_of_lt g)
 rw [← h, b, if_neg (Nat.ne_of_lt g), if_pos rfl] at a; omega
theorem low_and (t a : Nat) (h : 2 ^ t * (2 * a + 1) < 2 ^ 64) : 2 ^ t * (2 * a + 1) &&& (2 ^ 64 - 2 ^ t * (2 * a + 1)) = 2 ^ t := by
 have hp : 0 < 2 ^ t := Nat.pow_pos (by decide)
 obtain ⟨c, hc⟩ : ∃ c, c + 1 = 2 ^ t * (2 * a + 1) := ⟨2 ^ t * (2 * a + 1) - 1, by have : 0 < 2 ^ t * (2 * a + 1) := Nat.mul_pos hp (by omega); omega⟩
 have hc2 : c = 2 ^ t * (2 * a) + (2 ^ t - 1) := by rw [Nat.mul_add] at hc; omega
 have ht : t < 64 := (Nat.pow_lt_pow_iff_right (a := 2) (by decide)).1 (Nat.lt_of_le_of_lt (Nat.le_mul_of_pos_right _ (by omega)) h)
 apply Nat.eq_of_testBit_eq
 intro i
 rw [Nat.testBit_and, Nat.testBit_two_pow, ← hc, Nat.testBit_two_pow_sub_succ (by omega), hc, hc2, Nat.testBit_two_pow_mul_add _ (by omega)]
 have e0 : 2 ^ t * (2 * a + 1) = 2 ^ t * (2 * a + 1) + 0 := rfl
 rw [e0, Nat.testBit_two_pow_mul_add _ hp]
 by_cases h1 : i < t
 ·have : t ≠ i := by omega
  simp [h1, this]
 rw [if_neg h1, if_neg h1]
 by_cases h2 : t = i
 ·subst h2
  rw [Nat.sub_self]; simp [ht]
 obtain ⟨j, hj⟩ : ∃ j, i - t = j + 1 := ⟨i - t - 1, by omega⟩
 rw [hj, Nat.testBit_succ, Nat.testBit_succ]
 have e1 : (2 * a + 1) / 2 = a := by omega
 have e2 : 2 * a / 2 = a := by omega
 rw [e1, e2]
 cases a.testBit j <;> simp [h2]
theorem tz_table : ∀ t : Fin 64, tzTab.getD (2 ^ t.val * 285870213051353865 % 18446744073709551616 / 288230376151711744) 0 = (t.val : Int) ∧ 2 ^ t.val * 285870213051353865 % 18446744073709551616 / 288230376151711744 < 64 := by decide +kernel
theorem Trail_eq {w t m : Nat} (hw : w = 2 ^ t * (2 * m + 1)) (h : w < 18446744073709551616) : bits_TrailingZeros64.f w = some (t : Int) ∧ t < 64 := by
 have hp : 0 < 2 ^ t := Nat.pow_pos (by decide)
 have h0 : 0 < w := by rw [hw]; exact Nat.mul_pos hp (by omega)
 have h64 : 2 ^ t * (2 * m + 1) < 2 ^ 64 := by rw [← hw]; exact h
 have ht : t < 64 := (Nat.pow_lt_pow_iff_right (a := 2) (by decide)).1 (Nat.lt_of_le_of_lt (Nat.le_mul_of_pos_right _ (by omega)) h64)
 have ha := low_and t m h64
 rw [← hw] at ha
 obtain ⟨b1, b2⟩ := tz_table ⟨t, ht⟩
 have e1 : IntKind.u64.wrap (-(w : Int)) = ((18446744073709551616 - w : Nat) : Int) := by rw [IntKind.wrap_u64]; omega
 have e2 : bits BinOp.and IntKind.u64 (w : Int) ((18446744073709551616 - w : Nat) : Int) = ((2 ^ t : Nat) : Int) := by
  rw [u64_and_nat w _ h (by omega)]
  exact congrArg Nat.cast ha
 have e3 : tzI (w : Int) = ((2 ^ t * 285870213051353865 % 18446744073709551616 / 288230376151711744 : Nat) : Int) := by
  unfold tzI
  rw [e1, e2]
  generalize 2 ^ t = p
  rw [IntKind.wrap_u64]; omega
 refine ⟨?_, ht⟩
 unfold bits_TrailingZeros64.f
 dsimp only at b1 b2
 rw [if_neg (by omega), e3, if_pos (Int.natCast_nonneg _), if_pos (by omega), Int.toNat_natCast, b1]
theorem bit_val {a : List Int} (ha : Ws a) (j s : Nat) (hs : s < 64) : val a / 2 ^ (64 * j + s) % 2 = (a.getD j 0).toNat / 2 ^ s % 2 := by
 have e : 2 ^ (64 * j + s) = 18446744073709551616 ^ j * 2 ^ s := by rw [Nat.pow_add, Nat.pow_mul]
 by_cases h : j < a.length
 ·have ht := val_take_lt ha j
  obtain ⟨h1, _⟩ := shr_all (S := 2 ^ s) ht (val_take_drop a j (Nat.le_of_lt h))
  rw [e, h1, val_drop a j h]
  have hp : 0 < 2 ^ s := Nat.pow_pos (by decide)
  have e2 : (18446744073709551616 : Nat) = 2 ^ s * (2 * 2 ^ (63 - s)) := by
   have := pow_split (show s ≤ 64 by omega)
   have e3 : 64 - s = (63 - s) + 1 := by omega
   rw [e3, Nat.pow_succ, Nat.mul_comm _ 2] at this
   exact this.symm
  generalize (a.getD j 0).toNat = w
  generalize val (a.drop (j + 1)) = r
  have e4 : (w + 18446744073709551616 * r) / 2 ^ s = w / 2 ^ s + 2 * 2 ^ (63 - s) * r := by
   have : w + 18446744073709551616 * r = w + 2 ^ s * (2 * 2 ^ (63 - s) * r) := by rw [← Nat.mul_assoc, ← e2]
   rw [this, Nat.add_mul_div_left _ _ hp]
  rw [e4, Nat.mul_assoc]
  omega
 rw [getD_ge a j (by omega), e]
 have : val a < 18446744073709551616 ^ j := Nat.lt_of_lt_of_le (val_lt ha) (Nat.pow_le_pow_right (by decide) (by omega))
 rw [← Nat.div_div_eq_div_mul, Nat.div_eq_of_lt this]; simp
theorem and1 {w : Nat} (hw : w < 18446744073709551616) : Go.bits .and .u64 (w : Int) 1 = ((w % 2 : Nat) : Int) := by
 have h := u64_and_nat w 1 hw (by decide)
 have e : w &&& 1 = w % 2 := Nat.and_two_pow_sub_one_eq_mod w 1
 rw [e] at h; exact h
theorem Bit_eq (a : List Int) (i : Int) (k : Nat) (ha : Ws a) (hi : i < 9223372036854775808) (na : a.length < 17592186044000) (hk : a.length < k) :
  nat_Bit.f k a i = some (if val a < big then (if i < 0 then (false, 2) else (decide (val a / 2 ^ i.toNat % 2 = 1), 0)) else (false, 3)) := by
 unfold nat_Bit.f
 rw [one_eq a k ha (by omega) (by omega), bind_s]
 by_cases h : val a < big
 ·simp only [if_pos h]
  rw [if_pos trivial]
  by_cases g : i < 0
  ·rw [if_pos g, if_pos g]
  obtain ⟨n, rfl⟩ : ∃ n : Nat, i = (n : Int) := ⟨i.toNat, by omega⟩
  have hl := len_big h
  have e1 : wrap64 (Int.tdiv (n : Int) 64) = ((n / 64 : Nat) : Int) := by
   rw [Int.tdiv_eq_ediv_of_nonneg (by omega), wrapS (by omega) (by omega)]; omega
  have e2 : Int.tmod (n : Int) 64 = ((n % 64 : Nat) : Int) := by
   rw [Int.tmod_eq_emod_of_nonneg (by omega)]; omega
  have hs : n % 64 ≤ 64 := by omega
  have en : val (ofN (val a)) / 2 ^ n % 2 = ((ofN (val a)).getD (n / 64) 0).toNat / 2 ^ (n % 64) % 2 := by
   have := bit_val (ws_ofN (val a)) (n / 64) (n % 64) (by omega)
   rw [Nat.div_add_mod] at this; exact this
  rw [val_ofN] at en
  rw [if_neg g, if_neg g, Int.toNat_natCast, e1, e2, en]
  generalize hq : n / 64 = q at *
  by_cases c : q < (ofN (val a)).length
  ·obtain ⟨p0, p1⟩ := ws_get (ws_ofN (val a)) q
   have ew := asNat p0
   have cc : ((q : Nat) : Int) < ((ofN (val a)).length : Int) := by omega
   rw [if_pos cc, if_pos (Int.natCast_nonneg _), if_pos (Int.natCast_nonneg _), rd_nat]
   generalize ((ofN (val a)).getD q 0).toNat = w at *
   have w1 : w < 18446744073709551616 := Int.ofNat_lt.1 (ew ▸ p1)
   rw [ew, shr_eq _ _ hs, and1 (Nat.lt_of_le_of_lt (Nat.div_le_self _ _) w1)]
   generalize w / 2 ^ (n % 64) % 2 = z
   congr 2
   rw [Bool.eq_iff_iff]; simp; omega
  rw [if_neg (by omega), getD_ge _ _ (by omega)]
  simp
 simp only [if_neg h]
 rw [if_neg (by decide)]
theorem Norm_eq (a : List Int) (k : Nat) (ha : Ws a) (na : a.length < 17592186044000) (hk : a.length < k) : nat_Norm.f k a = some (if val a < big then (ofN (val a), 0) else ([], 3)) := by
 unfold nat_Norm.f
 rw [one_eq a k ha (by omega) (by omega), bind_s]
 by_cases h : val a < big
 ·have hl := len_big h
  have ho := own_eq (ofN (val a)) (by omega)
  simp only [if_pos h]
  rw [if_pos trivial, ho, bind_s]
 simp only [if_neg h]
 rw [if_neg (by decide)]
theorem nOf_eq (w k : Nat) (hw : w < 18446744073709551616) (hk : 1 < k) : nat_Of.f k w = some (ofN w) := by
 unfold nat_Of.f
 have : val [(w : Int)] = w := by simp [val]
 have l1 : (ofN w).length ≤ 1 := (ofN_len w 1).2 hw
 have ho := own_eq (ofN w) (by omega)
 rw [norm_eq 1 _ k rfl (ws_cons.2 ⟨by omega, ws_nil⟩) (by decide) hk, bind_s, this, ho, bind_s]
theorem len_eq (v k : Nat) (hl : (ofN v).length ≤ 1024) (hk : 1 < k) : nat_number_len.f k (ofN v) = some ((bl v : Nat) : Int) := by
 unfold nat_number_len.f
 by_cases h : v = 0
 ·have := ofN_zero_iff.2 h
  rw [if_pos (by omega), h, bl_zero]; rfl
 obtain ⟨m, w, h1, h2, h3, h4, h5⟩ := len_bl h
 have hb := bl_word h4
 have e1 : wrap64 (((ofN v).length : Int) - 1) = (m : Int) := by rw [wrapS (by omega) (by omega)]; omega
 have c0 : ¬ ((ofN v).length : Int) = 0 := by clear e1; omega
 have c1 : (m : Int) < ((ofN v).length : Int) := by clear e1; omega
 have e2 : wrap64 (64 * (m : Int)) = ((64 * m : Nat) : Int) := by clear e1; rw [wrapS (by omega) (by omega)]; omega
 have e3 : wrap64 (((64 * m : Nat) : Int) + ((bl w : Nat) : Int)) = ((64 * m + bl w : Nat) : Int) := by clear e1 e2; rw [wrapS (by omega) (by omega)]; omega
 rw [if_neg c0, e1, if_pos (Int.natCast_nonneg _), if_pos c1, rd_nat, h5, Len64_eq k w h4 hk, bind_s, e2, e3, h2]
theorem Len_eq (a : List Int) (k : Nat) (ha : Ws a) (na : a.length < 17592186044000) (hk : a.length + 1 < k) : nat_Len.f k a = some (if val a < big then (((bl (val a) : Nat) : Int), 0) else (0, 3)) := by
 unfold nat_Len.f
 rw [one_eq a k ha (by omega) (by omega), bind_s]
 by_cases h : val a < big
 ·simp only [if_pos h]
  rw [len_eq _ k (len_big h) (by omega), bind_s]
 simp only [if_neg h]
 have := len_eq 0 k (by rw [ofN_zero]; decide) (by omega)
 rw [ofN_zero, bl_zero] at this
 rw [this, bind_s]; rfl
theorem low_loop (v : Nat) (e : Int) (hl : (ofN v).length ≤ 1024) (s : Nat) : ∀ (i k : Nat), (ofN v).length - i = s → i ≤ (ofN v).length → s < k → val ((ofN v).take i) = 0 →
  (v = 0 → nat_Low.l0 k e (ofN v) (ofN v).length i = some (0, e)) ∧ (∀ t m : Nat, v = 2 ^ t * (2 * m + 1) → nat_Low.l0 k e (ofN v) (ofN v).length i = some ((t : Int), e)) := by
 induction s with
 | zero =>
  intro i k hs hi hk hz
  obtain ⟨k, rfl⟩ : ∃ z, k = z + 1 := ⟨k - 1, by omega⟩
  obtain rfl : i = (ofN v).length := by omega
  rw [val_take_ge _ _ (Nat.le_refl _), val_ofN] at hz
  have g : nat_Low.l0 (k + 1) e (ofN v) (ofN v).length ((ofN v).length : Nat) = some (0, e) := by
   simp only [nat_Low.l0]; rw [if_neg (by omega)]
  refine ⟨fun _ => g, fun t m ht => ?_⟩
  have : 0 < 2 ^ t * (2 * m + 1) := Nat.mul_pos (Nat.pow_pos (by decide)) (by omega)
  omega
 | succ s ih =>
  intro i k hs hi hk hz
  obtain ⟨k, rfl⟩ : ∃ z, k = z + 1 := ⟨k - 1, by omega⟩
  have i1 : (ofN v).length - (i + 1) = s := by omega
  have i2 : i + 1 ≤ (ofN v).length := by omega
  have i3 : s < k := by omega
  have g1 : (i : Int) < ((ofN v).length : Int) := by omega
  have b3 : i < 4611686018427387904 := by omega
  have i5 : i < (ofN v).length := by omega
  obtain ⟨p0, p1⟩ := ws_get (ws_ofN v) i
  have ew := asNat p0
  have ts := val_take_succ (ofN v) i i5
  have td := val_take_drop (ofN v) i (Nat.le_of_lt i5)
  have vd := val_drop (ofN v) i i5
  rw [hz] at ts td
  rw [val_ofN, vd] at td
  simp only [nat_Low.l0]
  rw [if_pos g1, if_pos (Int.natCast_nonneg _), if_pos g1, rd_nat]
  generalize hwn : ((ofN v).getD i 0).toNat = w at *
  by_cases h : w = 0
  ·have := ih (i + 1) k i1 i2 i3 (by rw [ts, h]; simp)
   rw [if_pos (by rw [ew, h]; rfl), wrap_succ b3]
   exact this
  have w1 : w < 18446744073709551616 := Int.ofNat_lt.1 (ew ▸ p1)
  obtain ⟨s', c, hc⟩ := low_form w h
  obtain ⟨tz, ts64⟩ := Trail_eq hc w1
  have e2 : wrap64 (64 * (i : Int)) = ((64 * i : Nat) : Int) := by rw [wrapS (by omega) (by omega)]; omega
  have e3 : wrap64 (((64 * i : Nat) : Int) + (s' : Int)) = ((64 * i + s' : Nat) : Int) := by clear e2; rw [wrapS (by omega) (by omega)]; omega
  have hw0 : ¬ (w : Int) = 0 := by clear e2 e3; omega
  rw [ew, if_neg hw0, tz, bind_s, e2, e3]
  clear e2 e3
  have hv : v = 2 ^ (64 * i + s') * (2 * (c + 2 ^ (63 - s') * val ((ofN v).drop (i + 1))) + 1) := by
   have eB : (18446744073709551616 : Nat) = 2 ^ s' * (2 * 2 ^ (63 - s')) := by
    have := pow_split (show s' ≤ 64 by omega)
    have e3 : 64 - s' = (63 - s') + 1 := by omega
    rw [e3, Nat.pow_succ, Nat.mul_comm _ 2] at this
    exact this.symm
   have eP : (18446744073709551616 : Nat) ^ i = 2 ^ (64 * i) := by rw [Nat.pow_mul]
   generalize val ((ofN v).drop (i + 1)) = R at *
   have e5 : w + 18446744073709551616 * R = 2 ^ s' * (2 * (c + 2 ^ (63 - s') * R) + 1) := by
    rw [eB, hc, Nat.mul_assoc, ← Nat.mul_add, Nat.mul_add 2 c, Nat.mul_assoc 2]
    congr 1; omega
   rw [Nat.zero_add, e5, eP, ← Nat.mul_assoc, ← Nat.pow_add] at td
   exact td
  refine ⟨fun z => ?_, fun t m ht => ?_⟩
  ·have : 0 < 2 ^ (64 * i + s') * (2 * (c + 2 ^ (63 - s') * val ((ofN v).drop (i + 1))) + 1) := Nat.mul_pos (Nat.pow_pos (by decide)) (by omega)
   omega
  have := low_unique (ht.symm.trans hv)
  rw [this]
theorem big_pos : 0 < big := by
 have h : ∀ m, 0 < 18446744073709551616 ^ m := pow_pos
 unfold big
 exact h 1024
theorem Low_eq (a : List Int) (k : Nat) (ha : Ws a) (na : a.length < 17592186044000) (hk : a.length + 2000 < k) :
  (¬ val a < big → nat_Low.f k a = some (0, 3)) ∧ (val a = 0 → nat_Low.f k a = some (0, 0)) ∧ (val a < big → ∀ t m : Nat, val a = 2 ^ t * (2 * m + 1) → nat_Low.f k a = some ((t : Int), 0)) := by
 unfold nat_Low.f
 rw [one_eq a k ha (by omega) (by omega), bind_s]
 refine ⟨fun h => ?_, fun h => ?_, fun h t m ht => ?_⟩
 ·simp only [if_neg h]
  have := (low_loop 0 3 (by rw [ofN_zero]; decide) _ 0 k rfl (Nat.zero_le _) (by rw [ofN_zero]; simp; omega) (by simp [val])).1 rfl
  rw [ofN_zero] at this
  exact this
 ·have hb : val a < big := by rw [h]; exact big_pos
  simp only [if_pos hb]
  have := (low_loop 0 0 (by rw [ofN_zero]; decide) _ 0 k rfl (Nat.zero_le _) (by rw [ofN_zero]; simp; omega) (by simp [val])).1 rfl
  rw [h]
  exact this
 simp only [if_pos h]
 have hl := len_big h
 exact (low_loop (val a) 0 hl _ 0 k rfl (Nat.zero_le _) (by omega) (by simp [val])).2 t m ht
theorem low_lt {v t m : Nat} (h : v = 2 ^ t * (2 * m + 1)) : t < bl v := by
 have := bl_lt v
 refine (Nat.pow_lt_pow_iff_right (a := 2) (by decide)).1 (Nat.lt_of_le_of_lt ?_ this)
 rw [h]; exact Nat.le_mul_of_pos_right _ (by omega)
end Go.Proofs.YtnjfckadjklmfaaDoor.Nf

namespace Go.Proofs.YtnjfckadjklmfaaDoor.Nf
open Go.RowKit Go.Proofs.YtnjfckadjklmfaaDoor.PAll Go.Proofs.YtnjfckadjklmfaaDoorW.PrintWords Go.Proofs.YtnjfckadjklmfaaDoorW.PrintLast Go.Proofs.YtnjfckadjklmfaaDoorW.PrintMore Go.Proofs.YtnjfckadjklmfaaDoor.Nm
set_option linter.unusedVariables false
set_option linter.unusedSimpArgs false
theorem trim_loop (l : List Int) (hw : Ws l) (hn : l.length < 4611686018427387904) (n : Nat) : ∀ k, n ≤ l.length → n < k → limbs_Trim.l0 k l n = some (ofN (val (l.take n))) := by
 induction n with
 | zero =>
  intro k hj hk
  obtain ⟨k, rfl⟩ : ∃ m, k = m + 1 := ⟨k - 1, by omega⟩
  simp only [limbs_Trim.l0]
  rw [if_neg (by omega), if_pos (by omega), if_pos (by omega)]
  simp [val, ofN_zero]
 | succ n ih =>
  intro k hj hk
  obtain ⟨k, rfl⟩ : ∃ m, k = m + 1 := ⟨k - 1, by omega⟩
  simp only [limbs_Trim.l0]
  have e : wrap64 (((n + 1 : Nat) : Int) - 1) = (n : Int) := by rw [wrapS (by omega) (by omega)]; omega
  rw [e, if_pos (by omega), if_pos (by omega), if_pos (by omega), rd_nat]
  by_cases h : l.getD n 0 = 0
  ·rw [if_pos h, ih k (by omega) (by omega), val_take_succ l n (by omega), h]; simp
  rw [if_neg h, if_pos (by omega), if_pos (by omega), Int.toNat_natCast, ← ofN_take hw (by omega) h]
theorem trim_eq (l : List Int) (k : Nat) (hw : Ws l) (hn : l.length < 4611686018427387904) (hk : l.length < k) : limbs_Trim.f k l = some (ofN (val l)) := by
 unfold limbs_Trim.f
 rw [trim_loop l hw hn _ k (Nat.le_refl _) hk, val_take_ge _ _ (Nat.le_refl _)]
theorem lLen_eq (a : List Int) (k : Nat) (ha : Ws a) (na : a.length < 17592186044000) (hk : a.length + 1 < k) : limbs_Len.f k a = some ((bl (val a) : Nat) : Int) := by
 unfold limbs_Len.f
 rw [trim_eq a k ha (by omega) (by omega), bind_s]
 have hla : (ofN (val a)).length ≤ a.length := (ofN_len _ _).2 (val_lt ha)
 by_cases h : val a = 0
 ·have := ofN_zero_iff.2 h
  rw [if_pos (by omega), h, bl_zero]; rfl
 obtain ⟨m, w, h1, h2, h3, h4, h5⟩ := len_bl h
 have hb := bl_word h4
 have e1 : wrap64 (((ofN (val a)).length : Int) - 1) = (m : Int) := by rw [wrapS (by omega) (by omega)]; omega
 have c0 : ¬ ((ofN (val a)).length : Int) = 0 := by clear e1; omega
 have c1 : (m : Int) < ((ofN (val a)).length : Int) := by clear e1; omega
 have e2 : wrap64 (64 * (m : Int)) = ((64 * m : Nat) : Int) := by clear e1; rw [wrapS (by omega) (by omega)]; omega
 have e3 : wrap64 (((64 * m : Nat) : Int) + ((bl w : Nat) : Int)) = ((64 * m + bl w : Nat) : Int) := by clear e1 e2; rw [wrapS (by omega) (by omega)]; omega
 rw [if_neg c0, e1, if_pos (Int.natCast_nonneg _), if_pos c1, rd_nat, h5, Len64_eq k w h4 (by omega), bind_s, e2, e3, h2]
theorem lcmp_loop (x y : List Int) (hx : Ws x) (hy : Ws y) (e : x.length = y.length) (hn : x.length < 4611686018427387904) (j : Nat) : ∀ (k : Nat), j ≤ x.length → j < k →
  limbs_Cmp.l0 k x y ((j : Int) - 1) = some (cmpI (val (x.take j)) (val (y.take j))) := by
 induction j with
 | zero =>
  intro k hj hk
  obtain ⟨k, rfl⟩ : ∃ m, k = m + 1 := ⟨k - 1, by omega⟩
  simp only [limbs_Cmp.l0]
  rw [if_neg (by omega)]
  simp [val, cmpI]
 | succ j ih =>
  intro k hj hk
  obtain ⟨k, rfl⟩ : ∃ m, k = m + 1 := ⟨k - 1, by omega⟩
  have e0 : ((j + 1 : Nat) : Int) - 1 = (j : Int) := by omega
  have e1 : wrap64 ((j : Int) - 1) = (j : Int) - 1 := wrapS (by omega) (by omega)
  have q1 := ws_get hx j
  have q2 := ws_get hy j
  have p1 : val (x.take j) < 18446744073709551616 ^ j := val_take_lt hx j
  have p2 : val (y.take j) < 18446744073709551616 ^ j := val_take_lt hy j
  simp only [limbs_Cmp.l0]
  rw [e0, if_pos (by omega), if_pos (by omega), if_pos (by omega), if_pos (by omega), rd_nat, rd_nat, e1, ih k (by omega) (by omega), val_take_succ x j (by omega), val_take_succ y j (by omega), cmpI_top p1 p2]
  by_cases a : x.getD j 0 = y.getD j 0
  ·rw [if_pos a, a, if_neg (by omega), if_neg (by omega)]
  rw [if_neg a]
  by_cases b : x.getD j 0 < y.getD j 0
  ·rw [if_pos b, if_pos (by omega)]
  rw [if_neg b, if_neg (by omega), if_pos (by omega)]
theorem lCmp_eq (a b : List Int) (k : Nat) (ha : Ws a) (hb : Ws b) (na : a.length < 17592186044000) (nb : b.length < 17592186044000) (hk : a.length + b.length < k) : limbs_Cmp.f k a b = some (cmpI (val a) (val b)) := by
 unfold limbs_Cmp.f
 rw [trim_eq a k ha (by omega) (by omega), bind_s, trim_eq b k hb (by omega) (by omega), bind_s]
 have hla : (ofN (val a)).length ≤ a.length := (ofN_len _ _).2 (val_lt ha)
 by_cases e : (ofN (val a)).length = (ofN (val b)).length
 ·have w : wrap64 (((ofN (val a)).length : Int) - 1) = ((ofN (val a)).length : Int) - 1 := wrapS (by omega) (by omega)
  rw [if_pos (by omega), w, lcmp_loop _ _ (ws_ofN _) (ws_ofN _) e (by omega) _ k (Nat.le_refl _) (by omega), val_take_ge _ _ (Nat.le_refl _), val_take_ge _ _ (by omega), val_ofN, val_ofN]
 rw [if_neg (by omega)]
 by_cases l : (ofN (val a)).length < (ofN (val b)).length
 ·have := cmpI_len l
  rw [if_pos (by omega)]; unfold cmpI; rw [if_pos this]
 have := cmpI_len (show (ofN (val b)).length < (ofN (val a)).length by omega)
 rw [if_neg (by omega)]; unfold cmpI; rw [if_neg (by omega), if_neg (by omega)]
theorem ladd_swap (k : Nat) : ∀ a b o c n j, limbs_Add.l0 k a b o c n j = limbs_Add.l100 k a b o c n j := by
 induction k with
 | zero => intro a b o c n j; simp only [limbs_Add.l0, limbs_Add.l100]
 | succ k ih => intro a b o c n j; simp only [limbs_Add.l0, limbs_Add.l100, ih]
end Go.Proofs.YtnjfckadjklmfaaDoor.Nf

namespace Go.Proofs.YtnjfckadjklmfaaDoor.Nf
open Go.RowKit Go.Proofs.YtnjfckadjklmfaaDoor.PAll Go.Proofs.YtnjfckadjklmfaaDoorW.PrintWords Go.Proofs.YtnjfckadjklmfaaDoorW.PrintLast Go.Proofs.YtnjfckadjklmfaaDoorW.PrintMore Go.Proofs.YtnjfckadjklmfaaDoor.Nm
set_option linter.unusedVariables false
set_option linter.unusedSimpArgs false
theorem ladd_loop (a b : List Int) (ha : Ws a) (hb : Ws b) (na : a.length < 4611686018427387900) (nb : b.length ≤ a.length) (r : Nat) : ∀ (j : Nat) (k : Nat) (o : List Int) (c : Nat), a.length - j = r → j ≤ a.length → r + a.length + 2 < k → o.length = a.length + 1 → Ws o → c ≤ 1 →
  val (o.take j) + 18446744073709551616 ^ j * c = val (a.take j) + val (b.take j) →
  limbs_Add.l100 k a b o c a.length j = some (ofN (val a + val b)) := by
 induction r with
 | zero =>
  intro j k o c hr hj hk ho hw hc hv
  obtain ⟨k, rfl⟩ : ∃ m, k = m + 1 := ⟨k - 1, by omega⟩
  obtain rfl : j = a.length := by omega
  simp only [limbs_Add.l100]
  rw [if_neg (by omega), if_pos (by omega), if_pos (by omega), Int.toNat_natCast]
  rw [trim_eq _ k (ws_set hw _ (by omega) (by omega)) (by rw [List.length_set]; omega) (by rw [List.length_set]; omega), bind_s]
  have e := val_set_take o a.length (c : Int) (by omega)
  rw [val_take_ge _ (a.length + 1) (by rw [List.length_set]; omega), Int.toNat_natCast] at e
  rw [val_take_ge a _ (Nat.le_refl _), val_take_ge b _ nb] at hv
  rw [e, hv]
 | succ r ih =>
  intro j k o c hr hj hk ho hw hc hv
  obtain ⟨k, rfl⟩ : ∃ m, k = m + 1 := ⟨k - 1, by omega⟩
  simp only [limbs_Add.l100]
  have i5 : ¬ (j : Int) < (b.length : Int) → 0 = b.getD j 0 := fun h => (getD_ge _ _ (by omega)).symm
  have i4 : j < o.length := by omega
  have i1 : a.length - (j + 1) = r := by omega
  have i2 : j + 1 ≤ a.length := by omega
  have i3 : r + a.length + 2 < k := by omega
  have pa := ws_get ha j; have pb := ws_get hb j
  have t1 : (j : Int) < (a.length : Int) := by omega
  have t2 : (0 : Int) ≤ (j : Int) := by omega
  have t3 : (c : Int) ≤ 1 := by omega
  have t4 : (j : Int) < (o.length : Int) := by omega
  have wj : wrap64 ((j : Int) + 1) = ((j + 1 : Nat) : Int) := by rw [wrapS (by omega) (by omega)]; omega
  have key : ∀ y : Int, 0 ≤ y → y < 18446744073709551616 → y = b.getD j 0 →
    limbs_Add.l100 k a b (o.set j (add64s (a.getD j 0) y c)) (add64c (a.getD j 0) y c) a.length ((j + 1 : Nat) : Int) = some (ofN (val a + val b)) := by
   intro y y0 y1 hy
   obtain ⟨d, hd, ed⟩ := a64c_bd (x := a.getD j 0) (y := y) (c := c) pa.2 y1 hc
   rw [ed]
   have hs : (add64s (a.getD j 0) y c).toNat + 18446744073709551616 * d = (a.getD j 0).toNat + y.toNat + c := by
    rw [a64s]; rw [a64c] at ed
    simp only [Int.toNat_natCast] at ed ⊢
    omega
   refine ih (j + 1) k _ d i1 i2 i3 (by rw [List.length_set]; exact ho) (ws_set hw _ (a64s_lo _ _ _) (a64s_hi _ _ _)) hd ?_
   rw [val_set_take o j _ i4, take_succ_getD a, take_succ_getD b, ← hy, Nat.pow_succ]
   exact add_step hs hv
  rw [if_pos t1]
  by_cases h : (j : Int) < (b.length : Int)
  ·rw [if_pos h, if_pos t2, if_pos t1, if_pos t3, if_pos t4, rd_nat, rd_nat, Int.toNat_natCast, wj]; exact key _ pb.1 pb.2 rfl
  rw [if_neg h, if_pos t2, if_pos t1, if_pos t3, if_pos t4, rd_nat, Int.toNat_natCast, wj]; exact key 0 (Int.le_refl 0) (by decide) (i5 h)
theorem lAdd_eq (a b : List Int) (ha : Ws a) (hb : Ws b) (na : a.length < 17592186044000) (nb : b.length < 17592186044000) (k : Nat) (hk : 2 * (a.length + b.length) + 3 < k) : limbs_Add.f k a b = some (ofN (val a + val b)) := by
 have z : ∀ n, val ((List.replicate n (0 : Int)).take 0) + 18446744073709551616 ^ 0 * 0 = 0 := fun n => by simp [val]
 unfold limbs_Add.f
 by_cases h : (a.length : Int) < (b.length : Int)
 ·have w : wrap64 ((b.length : Int) + 1) = ((b.length + 1 : Nat) : Int) := by rw [wrapS (by omega) (by omega)]; omega
  rw [if_pos h, w, if_pos (by omega), Int.toNat_natCast, if_pos (by omega), ladd_swap]
  have t := ladd_loop b a hb ha (by omega) (by omega) b.length 0 k (List.replicate (b.length + 1) 0) 0 (by omega) (by omega) (by omega) (by simp) (ws_replicate _) (by omega) (by simp [val])
  rw [Nat.add_comm (val a)]; exact t
 have w : wrap64 ((a.length : Int) + 1) = ((a.length + 1 : Nat) : Int) := by rw [wrapS (by omega) (by omega)]; omega
 rw [if_neg h, w, if_pos (by omega), Int.toNat_natCast, if_pos (by omega)]
 exact ladd_loop a b ha hb (by omega) (by omega) a.length 0 k (List.replicate (a.length + 1) 0) 0 (by omega) (by omega) (by omega) (by simp) (ws_replicate _) (by omega) (by simp [val])
theorem lsub_loop (a b : List Int) (ha : Ws a) (hb : Ws b) (na : a.length < 4611686018427387904) (hle : val b ≤ val a) (hl : b.length ≤ a.length) (r : Nat) : ∀ (j : Nat) (k : Nat) (o : List Int) (c : Nat), a.length - j = r → j ≤ a.length → r + a.length + 2 < k → o.length = a.length → Ws o → c ≤ 1 →
  val (a.take j) + 18446744073709551616 ^ j * c = val (o.take j) + val (b.take j) →
  limbs_Sub.l0 k a b o c a.length j = some (ofN (val a - val b)) := by
 induction r with
 | zero =>
  intro j k o c hr hj hk ho hw hc hv
  obtain ⟨k, rfl⟩ : ∃ m, k = m + 1 := ⟨k - 1, by omega⟩
  obtain rfl : j = a.length := by omega
  simp only [limbs_Sub.l0]
  rw [if_neg (by omega), trim_eq _ k hw (by omega) (by omega), bind_s]
  have := val_lt hw
  rw [ho] at this
  rw [val_take_ge _ _ (by omega), val_take_ge _ _ (by omega), val_take_ge _ _ (by omega)] at hv
  generalize 18446744073709551616 ^ a.length = p at *
  have : c = 0 := by
   rcases Nat.lt_or_ge c 1 with h | h
   ·omega
   have : c = 1 := by omega
   subst this; omega
  subst this
  rw [Nat.mul_zero] at hv
  congr 2; omega
 | succ r ih =>
  intro j k o c hr hj hk ho hw hc hv
  obtain ⟨k, rfl⟩ : ∃ m, k = m + 1 := ⟨k - 1, by omega⟩
  simp only [limbs_Sub.l0]
  have i5 : ¬ (j : Int) < (b.length : Int) → 0 = b.getD j 0 := fun h => (getD_ge _ _ (by omega)).symm
  have i4 : j < o.length := by omega
  have i1 : a.length - (j + 1) = r := by omega
  have i2 : j + 1 ≤ a.length := by omega
  have i3 : r + a.length + 2 < k := by omega
  have pa := ws_get ha j; have pb := ws_get hb j
  have t1 : (j : Int) < (a.length : Int) := by omega
  have t2 : (0 : Int) ≤ (j : Int) := by omega
  have t3 : (c : Int) ≤ 1 := by omega
  have t4 : (j : Int) < (o.length : Int) := by omega
  have wj : wrap64 ((j : Int) + 1) = ((j + 1 : Nat) : Int) := wrap_succ (by omega)
  have key : ∀ y : Int, 0 ≤ y → y < 18446744073709551616 → y = b.getD j 0 →
    limbs_Sub.l0 k a b (o.set j (sub64s (a.getD j 0) y c)) (sub64c (a.getD j 0) y c) a.length ((j + 1 : Nat) : Int) = some (ofN (val a - val b)) := by
   intro y y0 y1 hy
   obtain ⟨d, hd, ed, hs⟩ := sub_word pa.1 pa.2 y0 y1 hc
   rw [ed]
   refine ih (j + 1) k _ d i1 i2 i3 (by rw [List.length_set]; exact ho) (ws_set hw _ (s64s_lo _ _ _) (s64s_hi _ _ _)) hd ?_
   rw [val_set_take o j _ i4, take_succ_getD a, take_succ_getD b, ← hy, Nat.pow_succ]
   exact add_step hs hv
  rw [if_pos t1]
  by_cases h : (j : Int) < (b.length : Int)
  ·rw [if_pos h, if_pos t2, if_pos t1, if_pos t3, if_pos t4, rd_nat, rd_nat, Int.toNat_natCast, wj]; exact key _ pb.1 pb.2 rfl
  rw [if_neg h, if_pos t2, if_pos t1, if_pos t3, if_pos t4, rd_nat, Int.toNat_natCast, wj]; exact key 0 (Int.le_refl 0) (by decide) (i5 h)
theorem lSub_eq (a b : Nat) (h : b ≤ a) (k : Nat) (na : (ofN a).length < 17592186044000) (hk : 2 * (ofN a).length + 3 < k) : limbs_Sub.f k (ofN a) (ofN b) = some (ofN (a - b)) := by
 unfold limbs_Sub.f
 rw [if_pos (by omega), Int.toNat_natCast, if_pos (by omega)]
 have t := lsub_loop (ofN a) (ofN b) (ws_ofN a) (ws_ofN b) (by omega) (by rw [val_ofN, val_ofN]; exact h) (ofN_len_le h) (ofN a).length 0 k (List.replicate (ofN a).length 0) 0 (by omega) (by omega) (by omega) (by simp) (ws_replicate _) (by omega) (by simp [val])
 rw [val_ofN, val_ofN] at t; exact t
end Go.Proofs.YtnjfckadjklmfaaDoor.Nf

namespace Go.Proofs.YtnjfckadjklmfaaDoor.Nf
open Go.RowKit Go.Proofs.YtnjfckadjklmfaaDoor.PAll Go.Proofs.YtnjfckadjklmfaaDoorW.PrintWords Go.Proofs.YtnjfckadjklmfaaDoorW.PrintLast Go.Proofs.YtnjfckadjklmfaaDoorW.PrintMore Go.Proofs.YtnjfckadjklmfaaDoor.Nm
set_option linter.unusedVariables false
set_option linter.unusedSimpArgs false
theorem wrap_addl {a b : Nat} (h : a + b < 4611686018427387904) : wrap64 ((a : Int) + (b : Int)) = ((a + b : Nat) : Int) := by rw [wrapS (by omega) (by omega)]; omega
def Q64 (n q : Nat) : Prop := wrap64 (Int.tdiv (n : Int) 64) = (q : Int)
theorem lshl_loop (n : Nat) (a : List Int) (ha : Ws a) (q s : Nat) (e1 : Q64 n q) (hs : s < 64) (na : a.length + q < 35184372088000) (r : Nat) : ∀ (j k : Nat) (o : List Int) (c : Nat), a.length - j = r → j ≤ a.length → r + a.length + q + 3 < k → o.length = a.length + q + 1 → Ws o → c < 2 ^ s → o.getD (q + j) 0 = c → (∀ i, q + j < i → o.getD i 0 = 0) →
  val (o.take (q + j)) + 18446744073709551616 ^ (q + j) * c = 18446744073709551616 ^ q * (val (a.take j) * 2 ^ s) →
  limbs_Shl.l0 k n o s a a.length j = some (ofN (18446744073709551616 ^ q * (val a * 2 ^ s))) := by
 have h2 : 2 ^ s ≤ 18446744073709551616 := by rw [← pow_split (show s ≤ 64 by omega)]; exact Nat.le_mul_of_pos_right _ (Nat.pow_pos (by decide))
 induction r with
 | zero =>
  intro j k o c hr hj hk ho hw hc hg hz hv
  obtain ⟨k, rfl⟩ : ∃ m, k = m + 1 := ⟨k - 1, by omega⟩
  obtain rfl : j = a.length := by omega
  simp only [limbs_Shl.l0]
  rw [if_neg (by omega), trim_eq _ k hw (by omega) (by omega), bind_s]
  have e := val_take_succ o (q + a.length) (by omega)
  rw [hg, Int.toNat_natCast, hv, val_take_ge _ _ (by omega), val_take_ge _ _ (Nat.le_refl _)] at e
  rw [e]
 | succ r ih =>
  intro j k o c hr hj hk ho hw hc hg hz
  obtain ⟨k, rfl⟩ : ∃ m, k = m + 1 := ⟨k - 1, by omega⟩
  have i1 : a.length - (j + 1) = r := by omega
  have i2 : j + 1 ≤ a.length := by omega
  have i3 : r + a.length + q + 3 < k := by omega
  have i4 : q + j + 1 < o.length := by omega
  have b1 : j + q < 4611686018427387904 := by omega
  have b2 : q + j < 4611686018427387904 := by omega
  have b3 : j < 4611686018427387904 := by omega
  have g1 : (j : Int) < (a.length : Int) := by omega
  have g2 : ((q + j : Nat) : Int) < (o.length : Int) := by omega
  have g3 : ((q + j + 1 : Nat) : Int) < (o.length : Int) := by omega
  have hs' : s ≤ 64 := by omega
  have l0 : 2 ^ s ≤ 18446744073709551616 := h2
  have hz' : ∀ i, q + (j + 1) < i → q + j < i ∧ q + j + 1 ≠ i ∧ q + j ≠ i := fun i hi => by omega
  have hq1 : q + j < q + j + 1 := by omega
  intro hv
  simp only [limbs_Shl.l0]
  rw [if_pos g1, if_pos (Int.natCast_nonneg _), if_pos g1, show wrap64 (Int.tdiv (n : Int) 64) = (q : Int) from e1, wrap_addl b2, wrap_succ b2, if_pos (Int.natCast_nonneg _), if_pos g2, if_pos (Int.natCast_nonneg _), wrap_succ b3]
  simp only [rd_nat, Int.toNat_natCast]
  obtain ⟨p0, p1⟩ := ws_get ha j
  have ew := asNat p0
  generalize hwn : (a.getD j 0).toNat = w at ew
  have w1 : w < 18446744073709551616 := Int.ofNat_lt.1 (ew ▸ p1)
  rw [ew, hg, or_shl' hs' hc, bind_s]
  have l1 := or_shl_lt (w := w) hs' hc
  have e := (shl_parts (w := w) (s := s) hs').2
  have key : ∀ d : Nat, d = w / 2 ^ (64 - s) → limbs_Shl.l0 k n ((o.set (q + j) ((w * 2 ^ s % 18446744073709551616 + c : Nat) : Int)).set (q + j + 1) (d : Int)) s a a.length ((j + 1 : Nat) : Int) = some (ofN (18446744073709551616 ^ q * (val a * 2 ^ s))) := by
   intro d hd
   have l2 : d < 2 ^ s := by rw [hd]; exact shr_up_lt hs' w1
   refine ih (j + 1) k _ d i1 i2 i3 (by rw [List.length_set, List.length_set]; exact ho) (ws_set (ws_set hw _ (Int.natCast_nonneg _) (Int.ofNat_lt.2 l1)) _ (Int.natCast_nonneg _) (Int.ofNat_lt.2 (Nat.lt_of_lt_of_le l2 h2))) l2 ?_ ?_ ?_
   ·exact Nm.getD_set_eq _ _ _ (by rw [List.length_set]; exact i4)
   ·intro i hi
    obtain ⟨z1, z2, z3⟩ := hz' i hi
    rw [Nm.getD_set_ne _ _ _ _ z2, Nm.getD_set_ne _ _ _ _ z3]
    exact hz i z1
   rw [← hd] at e
   have := val_take_succ ((o.set (q + j) ((w * 2 ^ s % 18446744073709551616 + c : Nat) : Int)).set (q + j + 1) (d : Int)) (q + j + 1) (by rw [List.length_set, List.length_set]; exact i4)
   rw [val_set2 _ _ _ _ i4, Nm.getD_set_eq _ _ _ (by rw [List.length_set]; exact i4), Int.toNat_natCast] at this
   have e3 : q + (j + 1) = q + j + 1 := rfl
   rw [e3]
   rw [← this, take_succ_getD a, hwn, Nat.pow_succ, Nat.pow_add]
   rw [Nat.pow_add] at hv
   exact shl_step e hv
  by_cases h : (s : Int) > 0
  ·have hs64 : 64 - s ≤ 64 := by omega
   have e64 : wrap64 (64 - (s : Int)) = ((64 - s : Nat) : Int) := by rw [wrapS (by omega) (by omega)]; omega
   rw [if_pos h, e64, if_pos (Int.natCast_nonneg _), if_pos (Int.natCast_nonneg _), if_pos g3, shr_eq _ _ hs64]
   exact key _ rfl
  have : s = 0 := by omega
  rw [if_neg h]
  have k0 := key 0 (by subst this; rw [Nat.div_eq_of_lt (show w < 2 ^ (64 - 0) from w1)])
  have same : ((o.set (q + j) ((w * 2 ^ s % 18446744073709551616 + c : Nat) : Int)).set (q + j + 1) ((0 : Nat) : Int)) = o.set (q + j) ((w * 2 ^ s % 18446744073709551616 + c : Nat) : Int) := by
   have h0 := hz (q + j + 1) hq1
   refine List.ext_getElem (by simp) fun i g1 g2 => ?_
   by_cases hi : i = q + j + 1
   ·subst hi
    rw [List.getElem_set_self, List.getElem_set_ne (by omega)]
    rw [List.getD_eq_getElem?_getD, List.getElem?_eq_getElem i4] at h0
    exact h0.symm
   rw [List.getElem_set_ne (by omega)]
  rw [same] at k0
  exact k0
theorem lShl_eq (a : List Int) (n k : Nat) (ha : Ws a) (hn : n < 4611686018427387904) (na : a.length + n / 64 < 17592186044000) (hk : 3 * a.length + n / 64 + 10 < k) : limbs_Shl.f k a n = some (ofN (val a * 2 ^ n)) := by
 unfold limbs_Shl.f
 have hla : (ofN (val a)).length ≤ a.length := (ofN_len _ _).2 (val_lt ha)
 rw [trim_eq a k ha (by omega) (by omega), bind_s]
 by_cases h : val a = 0
 ·have := ofN_zero_iff.2 h
  rw [if_pos (by omega), h, Nat.zero_mul, ofN_zero]
 have hl : (ofN (val a)).length ≠ 0 := fun z => h (ofN_zero_iff.1 z)
 have f1 : n % 64 < 64 := by omega
 have f2 : (ofN (val a)).length + n / 64 < 35184372088000 := by omega
 have f3 : (ofN (val a)).length + (ofN (val a)).length + n / 64 + 3 < k := by omega
 have c1 : (ofN (val a)).length + n / 64 + 1 ≤ 35184372088832 := by omega
 have c2 : ¬ (((ofN (val a)).length : Int) = 0) := by omega
 have b1 : n / 64 + (ofN (val a)).length + 1 < 4611686018427387904 := by omega
 have e1 : Q64 n (n / 64) := by
  unfold Q64
  rw [Int.tdiv_eq_ediv_of_nonneg (by omega), wrapS (by omega) (by omega)]; omega
 have t := lshl_loop n (ofN (val a)) (ws_ofN _) (n / 64) (n % 64) e1 f1 f2 _ 0 k (List.replicate ((ofN (val a)).length + n / 64 + 1) 0) 0 rfl (Nat.zero_le _) (by rw [Nat.sub_zero]; exact f3) (by simp) (ws_replicate _) (Nat.pow_pos (by decide)) (by rw [getD_rep]; rfl) (fun i _ => getD_rep _ _) (by simp [val_replicate, val])
 rw [val_ofN] at t
 have e2 : Int.tmod (n : Int) 64 = ((n % 64 : Nat) : Int) := by
  clear t e1
  rw [Int.tmod_eq_emod_of_nonneg (by omega)]; omega
 have e3 : wrap64 ((wrap64 (((n / 64 : Nat) : Int) + ((ofN (val a)).length : Int))) + 1) = (((ofN (val a)).length + n / 64 + 1 : Nat) : Int) := by
  clear t e1 e2 hn na hk f1 f2 f3 c1 hla
  generalize n / 64 = q at *
  generalize (ofN (val a)).length = m at *
  rw [wrapS (x := (q : Int) + (m : Int)) (by omega) (by omega), wrapS (by omega) (by omega)]; omega
 rw [if_neg c2, show wrap64 (Int.tdiv (n : Int) 64) = ((n / 64 : Nat) : Int) from e1, e2, e3, if_pos (Int.natCast_nonneg _), Int.toNat_natCast, if_pos c1, pow_parts n, Nat.mul_left_comm]
 exact t
end Go.Proofs.YtnjfckadjklmfaaDoor.Nf

namespace Go.Proofs.YtnjfckadjklmfaaDoor.Nf
open Go.RowKit Go.Proofs.YtnjfckadjklmfaaDoor.PAll Go.Proofs.YtnjfckadjklmfaaDoorW.PrintWords Go.Proofs.YtnjfckadjklmfaaDoorW.PrintLast Go.Proofs.YtnjfckadjklmfaaDoorW.PrintMore Go.Proofs.YtnjfckadjklmfaaDoor.Nm
set_option linter.unusedVariables false
set_option linter.unusedSimpArgs false
theorem llow_loop (v : Nat) (hl : (ofN v).length < 4503599627370496) (s : Nat) : ∀ (i k : Nat), (ofN v).length - i = s → i ≤ (ofN v).length → s < k → val ((ofN v).take i) = 0 →
  (v = 0 → limbs_Low.l0 k (ofN v) (ofN v).length i = some 0) ∧ (∀ t m : Nat, v = 2 ^ t * (2 * m + 1) → limbs_Low.l0 k (ofN v) (ofN v).length i = some (t : Int)) := by
 induction s with
 | zero =>
  intro i k hs hi hk hz
  obtain ⟨k, rfl⟩ : ∃ z, k = z + 1 := ⟨k - 1, by omega⟩
  obtain rfl : i = (ofN v).length := by omega
  rw [val_take_ge _ _ (Nat.le_refl _), val_ofN] at hz
  have g : limbs_Low.l0 (k + 1) (ofN v) (ofN v).length ((ofN v).length : Nat) = some 0 := by
   simp only [limbs_Low.l0]; rw [if_neg (by omega)]
  refine ⟨fun _ => g, fun t m ht => ?_⟩
  have : 0 < 2 ^ t * (2 * m + 1) := Nat.mul_pos (Nat.pow_pos (by decide)) (by omega)
  omega
 | succ s ih =>
  intro i k hs hi hk hz
  obtain ⟨k, rfl⟩ : ∃ z, k = z + 1 := ⟨k - 1, by omega⟩
  have i1 : (ofN v).length - (i + 1) = s := by omega
  have i2 : i + 1 ≤ (ofN v).length := by omega
  have i3 : s < k := by omega
  have g1 : (i : Int) < ((ofN v).length : Int) := by omega
  have b3 : i < 4611686018427387904 := by omega
  have i5 : i < (ofN v).length := by omega
  obtain ⟨p0, p1⟩ := ws_get (ws_ofN v) i
  have ew := asNat p0
  have ts := val_take_succ (ofN v) i i5
  have td := val_take_drop (ofN v) i (Nat.le_of_lt i5)
  have vd := val_drop (ofN v) i i5
  rw [hz] at ts td
  rw [val_ofN, vd] at td
  simp only [limbs_Low.l0]
  rw [if_pos g1, if_pos (Int.natCast_nonneg _), if_pos g1, rd_nat]
  generalize hwn : ((ofN v).getD i 0).toNat = w at *
  by_cases h : w = 0
  ·have := ih (i + 1) k i1 i2 i3 (by rw [ts, h]; simp)
   rw [if_pos (by rw [ew, h]; rfl), wrap_succ b3]
   exact this
  have w1 : w < 18446744073709551616 := Int.ofNat_lt.1 (ew ▸ p1)
  obtain ⟨s', c, hc⟩ := low_form w h
  obtain ⟨tz, ts64⟩ := Trail_eq hc w1
  have e2 : wrap64 (64 * (i : Int)) = ((64 * i : Nat) : Int) := by rw [wrapS (by omega) (by omega)]; omega
  have e3 : wrap64 (((64 * i : Nat) : Int) + (s' : Int)) = ((64 * i + s' : Nat) : Int) := by clear e2; rw [wrapS (by omega) (by omega)]; omega
  have hw0 : ¬ (w : Int) = 0 := by clear e2 e3; omega
  rw [ew, if_neg hw0, tz, bind_s, e2, e3]
  clear e2 e3
  have hv : v = 2 ^ (64 * i + s') * (2 * (c + 2 ^ (63 - s') * val ((ofN v).drop (i + 1))) + 1) := by
   have eB : (18446744073709551616 : Nat) = 2 ^ s' * (2 * 2 ^ (63 - s')) := by
    have := pow_split (show s' ≤ 64 by omega)
    have e3 : 64 - s' = (63 - s') + 1 := by omega
    rw [e3, Nat.pow_succ, Nat.mul_comm _ 2] at this
    exact this.symm
   have eP : (18446744073709551616 : Nat) ^ i = 2 ^ (64 * i) := by rw [Nat.pow_mul]
   generalize val ((ofN v).drop (i + 1)) = R at *
   have e5 : w + 18446744073709551616 * R = 2 ^ s' * (2 * (c + 2 ^ (63 - s') * R) + 1) := by
    rw [eB, hc, Nat.mul_assoc, ← Nat.mul_add, Nat.mul_add 2 c, Nat.mul_assoc 2]
    congr 1; omega
   rw [Nat.zero_add, e5, eP, ← Nat.mul_assoc, ← Nat.pow_add] at td
   exact td
  refine ⟨fun z => ?_, fun t m ht => ?_⟩
  ·have : 0 < 2 ^ (64 * i + s') * (2 * (c + 2 ^ (63 - s') * val ((ofN v).drop (i + 1))) + 1) := Nat.mul_pos (Nat.pow_pos (by decide)) (by omega)
   omega
  have := low_unique (ht.symm.trans hv)
  rw [this]
theorem lLow_eq (v k : Nat) (hl : (ofN v).length < 4503599627370496) (hk : (ofN v).length < k) : (v = 0 → limbs_Low.f k (ofN v) = some 0) ∧ (∀ t m : Nat, v = 2 ^ t * (2 * m + 1) → limbs_Low.f k (ofN v) = some (t : Int)) := by
 unfold limbs_Low.f
 exact llow_loop v hl (ofN v).length 0 k (by omega) (Nat.zero_le _) hk (by simp [val])
end Go.Proofs.YtnjfckadjklmfaaDoor.Nf

namespace Go.Proofs.YtnjfckadjklmfaaDoor.Nf
open Go.RowKit Go.Proofs.YtnjfckadjklmfaaDoor.PAll Go.Proofs.YtnjfckadjklmfaaDoorW.PrintWords Go.Proofs.YtnjfckadjklmfaaDoorW.PrintLast Go.Proofs.YtnjfckadjklmfaaDoorW.PrintMore Go.Proofs.YtnjfckadjklmfaaDoor.Nm
set_option linter.unusedVariables false
set_option linter.unusedSimpArgs false
theorem lshr_loop (A : List Int) (ha : Ws A) (s : Nat) (hs : s < 64) (lost : Bool) (na : A.length < 35184372088832) (r : Nat) : ∀ (j k : Nat) (o : List Int), A.length - j = r → j ≤ A.length → r + A.length + 3 < k → o.length = A.length → Ws o →
  2 ^ s * val (o.take j) + (A.getD 0 0).toNat % 2 ^ s = val (A.take j) + 18446744073709551616 ^ j * ((A.getD j 0).toNat % 2 ^ s) →
  limbs_Shr.l0 k A lost o s A (A.length : Int) j = some (ofN (val A / 2 ^ s), lost) := by
 induction r with
 | zero =>
  intro j k o hr hj hk ho hw hv
  obtain ⟨k, rfl⟩ : ∃ m, k = m + 1 := ⟨k - 1, by omega⟩
  obtain rfl : j = A.length := by omega
  simp only [limbs_Shr.l0]
  rw [if_neg (by omega), trim_eq _ _ hw (by omega) (by omega), bind_s]
  rw [getD_ge A A.length (by omega), val_take_ge o _ (by omega), val_take_ge A _ (by omega)] at hv
  have h0 : (A.getD 0 0).toNat % 2 ^ s < 2 ^ s := Nat.mod_lt _ (Nat.pow_pos (by decide))
  have := (shr_end h0 (show 2 ^ s * val o + (A.getD 0 0).toNat % 2 ^ s = val A by rw [hv]; simp)).1
  rw [this]
 | succ r ih =>
  intro j k o hr hj hk ho hw hv
  obtain ⟨k, rfl⟩ : ∃ m, k = m + 1 := ⟨k - 1, by omega⟩
  have i1 : A.length - (j + 1) = r := by omega
  have i2 : j + 1 ≤ A.length := by omega
  have i3 : r + A.length + 3 < k := by omega
  have i4 : j < o.length := by omega
  have g1 : (j : Int) < (A.length : Int) := by omega
  have g3 : (j : Int) < (o.length : Int) := by omega
  have g4 : ((j + 1 : Nat) : Int) < (A.length : Int) ↔ j + 1 < A.length := by omega
  have b3 : j < 4611686018427387904 := by omega
  have hs' : s ≤ 64 := by omega
  have hs6 : 64 - s ≤ 64 := by omega
  have hsp : (s : Int) > 0 ↔ 0 < s := by omega
  have hs1 : -9223372036854775808 ≤ (64 : Int) - (s : Int) := by omega
  have hs2 : (64 : Int) - (s : Int) < 9223372036854775808 := by omega
  have hs3 : (64 : Int) - (s : Int) = ((64 - s : Nat) : Int) := by omega
  have hs0 : ¬ 0 < s → s = 0 := by omega
  have hge : ¬ j + 1 < A.length → A.length ≤ j + 1 := by omega
  simp only [limbs_Shr.l0]
  rw [if_pos g1, if_pos (Int.natCast_nonneg _), if_pos g1, if_pos (Int.natCast_nonneg _), if_pos g3, wrap_succ b3, bind_s]
  simp only [rd_nat, Int.toNat_natCast]
  obtain ⟨p0, p1⟩ := ws_get ha j
  obtain ⟨p2, p3⟩ := ws_get ha (j + 1)
  have ew := asNat p0
  have ew' := asNat p2
  generalize hwn : (A.getD j 0).toNat = w at ew
  generalize hwn' : (A.getD (j + 1) 0).toNat = w' at ew'
  have w1 : w < 18446744073709551616 := Int.ofNat_lt.1 (ew ▸ p1)
  rw [ew, shr_eq _ _ hs', Nm.getD_set_eq _ _ _ i4, List.set_set]
  have key : ∀ v : Nat, v = w / 2 ^ s + 2 ^ (64 - s) * (w' % 2 ^ s) → limbs_Shr.l0 k A lost (o.set j (v : Int)) s A (A.length : Int) ((j + 1 : Nat) : Int) = some (ofN (val A / 2 ^ s), lost) := by
   intro v hv2
   have l1 : v < 18446744073709551616 := by rw [hv2]; exact shr_word_lt hs' w1
   refine ih (j + 1) k _ i1 i2 i3 (by rw [List.length_set]; exact ho) (ws_set hw _ (Int.natCast_nonneg _) (Int.ofNat_lt.2 l1)) ?_
   rw [val_set_take o j _ i4, take_succ_getD, hwn', hwn, Int.toNat_natCast, Nat.pow_succ]
   rw [hwn] at hv
   exact shr_step (pow_split hs') hv2 hv
  by_cases h : 0 < s
  ·rw [if_pos (hsp.2 h)]
   by_cases g : j + 1 < A.length
   ·rw [if_pos (g4.2 g), if_pos (Int.natCast_nonneg _), wrapS hs1 hs2, hs3, if_pos (Int.natCast_nonneg _), ew', or_shr h hs w1]
    exact key _ rfl
   rw [if_neg (fun x => g (g4.1 x))]
   refine key _ ?_
   rw [getD_ge A _ (hge g)] at hwn'
   have : w' = 0 := hwn'.symm
   rw [this]; simp
  have h00 := hs0 h
  rw [if_neg (fun x => h (hsp.1 x))]
  refine key _ ?_
  rw [h00]; simp [Nat.mod_one]
theorem low_mod_ne (t m n : Nat) : (2 ^ t * (2 * m + 1)) % 2 ^ n ≠ 0 ↔ t < n := by
 constructor
 ·intro h
  refine Classical.byContradiction fun g => h ?_
  rw [show t = n + (t - n) by omega, Nat.pow_add, Nat.mul_assoc]
  exact Nat.mul_mod_right _ _
 intro h e
 obtain ⟨c, hc⟩ := Nat.dvd_of_mod_eq_zero e
 rw [show n = t + (1 + (n - t - 1)) by omega, Nat.pow_add, Nat.pow_add, Nat.mul_assoc] at hc
 have := Nat.eq_of_mul_eq_mul_left (Nat.pow_pos (by decide)) hc
 rw [Nat.pow_one, Nat.mul_assoc] at this
 omega
theorem lShr_eq (a : List Int) (n k : Nat) (ha : Ws a) (hn : n < 4611686018427387904) (na : a.length < 17592186044000) (hk : 3 * a.length + 10 < k) :
  limbs_Shr.f k a n = some (ofN (val a / 2 ^ n), decide (val a % 2 ^ n ≠ 0)) := by
 unfold limbs_Shr.f
 have hl : (ofN (val a)).length ≤ a.length := (ofN_len (val a) a.length).2 (val_lt ha)
 rw [trim_eq a k ha (by omega) (by omega), bind_s]
 generalize hv : val a = v at *
 have wv : Ws (ofN v) := ws_ofN v
 by_cases h0 : v = 0
 ·subst h0
  rw [ofN_zero, if_pos (show ((([] : List Int).length : Nat) : Int) = 0 from rfl), Nat.zero_div, Nat.zero_mod, ofN_zero]; rfl
 obtain ⟨t, m, e⟩ := low_form v h0
 have hne : (ofN v).length ≠ 0 := fun h => h0 (ofN_zero_iff.1 h)
 have q0 : ¬ ((ofN v).length : Int) = 0 := by omega
 have ql : (ofN v).length < 17592186044000 := by omega
 have qk : 3 * (ofN v).length + 10 < k := by omega
 rw [if_neg q0, ((lLow_eq v k (by omega) (by omega)).2 t m e), bind_s]
 have hd : decide ((t : Int) < (n : Int)) = decide (v % 2 ^ n ≠ 0) := by
  rw [decide_eq_decide, e, low_mod_ne]; omega
 rw [hd]
 have e2 : Int.tmod (n : Int) 64 = ((n % 64 : Nat) : Int) := by
  rw [Int.tmod_eq_emod_of_nonneg (by omega)]; omega
 have en : n = 64 * (n / 64) + n % 64 := by omega
 have hs : n % 64 < 64 := by omega
 have e1 : wrap64 (Int.tdiv (n : Int) 64) = ((n / 64 : Nat) : Int) := by
  have a1 : (-9223372036854775808 : Int) ≤ ((n / 64 : Nat) : Int) := by omega
  have a2 : ((n / 64 : Nat) : Int) < 9223372036854775808 := by omega
  rw [Int.tdiv_eq_ediv_of_nonneg (Int.natCast_nonneg n)]
  exact wrapS a1 a2
 rw [e1, e2]
 generalize n / 64 = q at *
 generalize n % 64 = s at *
 generalize hL : (ofN v).length = L at *
 by_cases h : L ≤ q
 ·have q1 : (q : Int) ≥ (L : Int) := by omega
  rw [if_pos q1]
  have h1 : v < 2 ^ n := by
   have := (ofN_len v L).1 (Nat.le_of_eq hL)
   refine Nat.lt_of_lt_of_le this ?_
   have e : 18446744073709551616 ^ L = 2 ^ (64 * L) := by rw [Nat.pow_mul]
   rw [e]; exact Nat.pow_le_pow_right (by decide) (by omega)
  rw [Nat.div_eq_of_lt h1, ofN_zero]
 have c1 : ¬ ((q : Int) ≥ (L : Int)) := by omega
 have c3 : (q : Int) ≤ (L : Int) := by omega
 have hdl : ((ofN v).drop q).length = L - q := by rw [List.length_drop, hL]
 have c5 : ((L - q : Nat) : Int).toNat ≤ 35184372088832 := by rw [Int.toNat_natCast]; omega
 have c6 : L - q < 35184372088832 := by omega
 have c7 : (L - q) + (L - q) + 3 < k := by omega
 rw [if_neg c1, if_pos (Int.natCast_nonneg _), if_pos c3, bind_s, Int.toNat_natCast, hdl, if_pos (Int.natCast_nonneg _), if_pos c5, Int.toNat_natCast]
 have hp := (shr_parts (q := q) (s := s) wv hs (by omega)).1
 rw [val_ofN] at hp
 have := lshr_loop ((ofN v).drop q) (ws_drop wv q) s hs (decide (v % 2 ^ n ≠ 0)) (by rw [hdl]; exact c6) _ 0 k (List.replicate (L - q) 0) rfl (Nat.zero_le _) (by rw [hdl]; exact c7) (by rw [hdl, List.length_replicate]) (ws_replicate _) (by simp [val])
 rw [hdl] at this
 rw [en, hp, ← en]
 exact this
end Go.Proofs.YtnjfckadjklmfaaDoor.Nf

namespace Go.Proofs.YtnjfckadjklmfaaDoor.Nf
open Go.RowKit Go.Proofs.YtnjfckadjklmfaaDoor.PAll Go.Proofs.YtnjfckadjklmfaaDoorW.PrintWords Go.Proofs.YtnjfckadjklmfaaDoorW.PrintLast Go.Proofs.YtnjfckadjklmfaaDoorW.PrintMore Go.Proofs.YtnjfckadjklmfaaDoor.Nm
set_option linter.unusedVariables false
set_option linter.unusedSimpArgs false
noncomputable def tz (n : Nat) : Nat := if h : n ≠ 0 then Classical.choose (low_form n h) else 0
theorem tz_eq {n t m : Nat} (h : n = 2 ^ t * (2 * m + 1)) : tz n = t := by
 have h0 : n ≠ 0 := by rw [h]; exact Nat.ne_of_gt (Nat.mul_pos (Nat.pow_pos (by decide)) (by omega))
 unfold tz
 rw [dif_pos h0]
 obtain ⟨m', hm⟩ := Classical.choose_spec (low_form n h0)
 exact low_unique (hm.symm.trans h)
noncomputable def od (n : Nat) : Nat := n / 2 ^ tz n
theorem od_eq {n t m : Nat} (h : n = 2 ^ t * (2 * m + 1)) : od n = 2 * m + 1 := by
 unfold od
 rw [tz_eq h, h, Nat.mul_div_cancel_left _ (Nat.pow_pos (by decide))]
theorem od_le (n : Nat) : od n ≤ n := Nat.div_le_self _ _
theorem od_mul (n : Nat) : od n * 2 ^ tz n = n := by
 by_cases h : n = 0
 ·subst h; unfold od; rw [Nat.zero_div, Nat.zero_mul]
 obtain ⟨t, m, e⟩ := low_form n h
 rw [od_eq e, tz_eq e, e, Nat.mul_comm]
theorem od_ne {n : Nat} (h : n ≠ 0) : od n ≠ 0 := fun e => h (by have := od_mul n; rw [e, Nat.zero_mul] at this; exact this.symm)
noncomputable def cf (s : Bool) (n : Nat) (e : Int) : Bool × List Int × Int := if n = 0 then (false, [], 0) else (s, ofN (od n), e + (tz n : Int))
theorem cf_zero (s : Bool) (e : Int) : cf s 0 e = (false, [], 0) := by unfold cf; rw [if_pos rfl]
theorem cf_ne {n : Nat} (h : n ≠ 0) (s : Bool) (e : Int) : cf s n e = (s, ofN (od n), e + (tz n : Int)) := by unfold cf; rw [if_neg h]
theorem tz_shl {n : Nat} (h : n ≠ 0) (j : Nat) : tz (n * 2 ^ j) = tz n + j ∧ od (n * 2 ^ j) = od n := by
 obtain ⟨t, m, e⟩ := low_form n h
 have e2 : n * 2 ^ j = 2 ^ (t + j) * (2 * m + 1) := by rw [e, Nat.pow_add, Nat.mul_right_comm]
 exact ⟨by rw [tz_eq e2, tz_eq e], by rw [od_eq e2, od_eq e]⟩
theorem cf_shl (s : Bool) (n j : Nat) (e : Int) : cf s (n * 2 ^ j) e = cf s n (e + j) := by
 by_cases h : n = 0
 ·subst h; rw [Nat.zero_mul, cf_zero, cf_zero]
 have h2 : n * 2 ^ j ≠ 0 := Nat.ne_of_gt (Nat.mul_pos (Nat.pos_of_ne_zero h) (Nat.pow_pos (by decide)))
 rw [cf_ne h, cf_ne h2, (tz_shl h j).1, (tz_shl h j).2]
 congr 2
 omega
theorem tz_lt {n : Nat} (h : n ≠ 0) : tz n < bl n := by
 obtain ⟨t, m, e⟩ := low_form n h
 rw [tz_eq e]; exact low_lt e
theorem bl_len {n m : Nat} (h : (ofN n).length ≤ m) : bl n ≤ 64 * m := by
 rw [bl_le_iff]
 have := (ofN_len n m).1 h
 rw [Nat.pow_mul]; exact this
theorem len_od (n : Nat) : (ofN (od n)).length ≤ (ofN n).length := ofN_len_le (od_le n)
theorem Form_eq (s : Bool) (l : List Int) (e : Int) (k : Nat) (hw : Ws l) (hl : l.length < 17592186044000) (h0 : -1000000000000000000 ≤ e) (h1 : e ≤ 1000000000000000000) (hk : 100000000000000000 ≤ k) : raw_Form.f k s l e = some (cf s (val l) e) := by
 unfold raw_Form.f
 have hn : (ofN (val l)).length ≤ l.length := (ofN_len (val l) l.length).2 (val_lt hw)
 rw [trim_eq l k hw (by omega) (by omega), bind_s]
 generalize val l = v at *
 by_cases h : v = 0
 ·subst h
  rw [ofN_zero, cf_zero, if_pos (show ((([] : List Int).length : Nat) : Int) = 0 from rfl)]
 obtain ⟨t, m, e1⟩ := low_form v h
 have hne : (ofN v).length ≠ 0 := fun h' => h (ofN_zero_iff.1 h')
 have q0 : ¬ ((ofN v).length : Int) = 0 := by omega
 have ht := low_lt e1
 have hb := bl_len hn
 have ht2 : t < 4611686018427387904 := by omega
 rw [if_neg q0, ((lLow_eq v k (by omega) (by omega)).2 t m e1), bind_s, lShr_eq _ t k (ws_ofN v) ht2 (by omega) (by omega), bind_s, cf_ne h, val_ofN, tz_eq e1, wrapS (by omega) (by omega)]
 unfold od
 rw [tz_eq e1]
def sg (s : Bool) (n : Nat) : Int := if s then -(n : Int) else (n : Int)
def lowE : Int := -4000000
def Vz (z e : Int) : Int := z * 2 ^ (e - lowE).toNat
noncomputable def cz (z e : Int) : Bool × List Int × Int := cf (decide (z < 0)) z.natAbs e
theorem sg_zero (s : Bool) : sg s 0 = 0 := by cases s <;> rfl
theorem sg_abs (s : Bool) (n : Nat) : (sg s n).natAbs = n := by cases s <;> simp [sg]
theorem sg_neg (s : Bool) (n : Nat) : sg (!s) n = - sg s n := by cases s <;> simp [sg]
theorem sg_add (s : Bool) (n m : Nat) : sg s (n + m) = sg s n + sg s m := by cases s <;> simp [sg] <;> omega
theorem sg_sub (s : Bool) {n m : Nat} (h : m ≤ n) : sg s (n - m) = sg s n + sg (!s) m := by cases s <;> simp [sg] <;> omega
theorem sg_mul (s : Bool) (n m : Nat) : sg s (n * m) = sg s n * (m : Int) := by cases s <;> simp [sg, Int.neg_mul]
theorem pow_int (j : Nat) : ((2 ^ j : Nat) : Int) = (2 : Int) ^ j := by simp
theorem sg_shl (s : Bool) (n j : Nat) : sg s (n * 2 ^ j) = sg s n * 2 ^ j := by rw [sg_mul, pow_int]
theorem sg_neg_iff (s : Bool) {n : Nat} (h : n ≠ 0) : decide (sg s n < 0) = s := by cases s <;> simp [sg] <;> omega
theorem sg_self (z : Int) : sg (decide (z < 0)) z.natAbs = z := by
 unfold sg
 by_cases h : z < 0
 ·rw [if_pos (decide_eq_true h)]; omega
 rw [if_neg (by simpa using h)]; omega
theorem cf_cz (s : Bool) (n : Nat) (e : Int) : cf s n e = cz (sg s n) e := by
 unfold cz
 rw [sg_abs]
 by_cases h : n = 0
 ·subst h; rw [cf_zero, cf_zero]
 rw [sg_neg_iff s h]
theorem pow2_pos (j : Nat) : (0 : Int) < 2 ^ j := by rw [← pow_int]; exact Int.ofNat_lt.2 (Nat.pow_pos (by decide))
theorem mul_pow_neg (z : Int) (j : Nat) : decide (z * 2 ^ j < 0) = decide (z < 0) := by
 rw [decide_eq_decide]
 have := pow2_pos j
 constructor
 ·intro h
  refine Classical.byContradiction fun g => ?_
  have := Int.mul_nonneg (Int.not_lt.1 g) (Int.le_of_lt this)
  omega
 intro h; exact Int.mul_neg_of_neg_of_pos h this
theorem cz_shl (z : Int) (j : Nat) (e : Int) : cz (z * 2 ^ j) e = cz z (e + j) := by
 unfold cz
 rw [mul_pow_neg, Int.natAbs_mul, ← pow_int, Int.natAbs_natCast, cf_shl]
theorem cz_Vz {e : Int} (h : lowE ≤ e) (z : Int) : cz z e = cz (Vz z e) lowE := by
 unfold Vz
 rw [cz_shl]
 congr 1
 omega
theorem Vz_shl {e : Int} (h : lowE ≤ e) (z : Int) (j : Nat) : Vz (z * 2 ^ j) e = Vz z (e + j) := by
 unfold Vz
 rw [show (e + j - lowE).toNat = j + (e - lowE).toNat by omega, Int.pow_add, Int.mul_assoc]
theorem Vz_zero (e : Int) : Vz 0 e = 0 := Int.zero_mul _
theorem Vz_add (a b e : Int) : Vz (a + b) e = Vz a e + Vz b e := Int.add_mul _ _ _
theorem Vz_neg (a e : Int) : Vz (-a) e = - Vz a e := Int.neg_mul _ _
def vl (s : Bool) (l : List Int) (e : Int) : Int := Vz (sg s (val l)) e
theorem cf_vl {e : Int} (h : lowE ≤ e) (s : Bool) (l : List Int) : cf s (val l) e = cz (vl s l e) lowE := by rw [cf_cz, cz_Vz h]; rfl
theorem vl_cf {e : Int} (h : lowE ≤ e) (s : Bool) (n : Nat) : vl (cf s n e).1 (cf s n e).2.1 (cf s n e).2.2 = Vz (sg s n) e := by
 by_cases h0 : n = 0
 ·subst h0; rw [cf_zero, sg_zero, Vz_zero]; unfold vl; rw [val_nil, sg_zero, Vz_zero]
 rw [cf_ne h0]
 show Vz (sg s (val (ofN (od n)))) (e + (tz n : Int)) = _
 rw [val_ofN, ← Vz_shl h, ← sg_shl, od_mul]
theorem vl_cz (Z : Int) : vl (cz Z lowE).1 (cz Z lowE).2.1 (cz Z lowE).2.2 = Z := by
 unfold cz
 rw [vl_cf (Int.le_refl _), sg_self]
 unfold Vz; rw [Int.sub_self]; simp
end Go.Proofs.YtnjfckadjklmfaaDoor.Nf

namespace Go.Proofs.YtnjfckadjklmfaaDoor.Nf
open Go.RowKit Go.Proofs.YtnjfckadjklmfaaDoor.PAll Go.Proofs.YtnjfckadjklmfaaDoorW.PrintWords Go.Proofs.YtnjfckadjklmfaaDoorW.PrintLast Go.Proofs.YtnjfckadjklmfaaDoorW.PrintMore Go.Proofs.YtnjfckadjklmfaaDoor.Nm
set_option linter.unusedVariables false
set_option linter.unusedSimpArgs false
theorem len0 {v : Nat} : (((ofN v).length : Nat) : Int) = 0 ↔ v = 0 := by rw [← ofN_zero_iff]; omega
theorem len_shl {a m : Nat} (h : (ofN a).length ≤ m) (j : Nat) : (ofN (a * 2 ^ j)).length ≤ m + j / 64 + 1 := by
 rw [ofN_len] at h ⊢
 have e : 18446744073709551616 ^ (m + j / 64 + 1) = 18446744073709551616 ^ m * 2 ^ (64 * (j / 64 + 1)) := by rw [Nat.add_assoc, Nat.pow_add, Nat.pow_mul]
 rw [e]
 exact Nat.mul_lt_mul_of_lt_of_le h (Nat.pow_le_pow_right (by decide) (by omega)) (Nat.pow_pos (by decide))
theorem wlen_add {a b m : Nat} (ha : (ofN a).length ≤ m) (hb : (ofN b).length ≤ m) : (ofN (a + b)).length ≤ m + 1 := big_add_aux rfl ((ofN_len _ _).1 ha) ((ofN_len _ _).1 hb)
theorem Zero_eq (s : Bool) (l : List Int) (e : Int) (k : Nat) (hw : Ws l) (hl : l.length < 17592186044000) (hk : 100000000000000000 ≤ k) : raw_Zero.f k s l e = some (decide (val l = 0)) := by
 unfold raw_Zero.f
 rw [trim_eq l k hw (by omega) (by omega), bind_s]
 congr 1
 rw [Bool.eq_iff_iff, decide_eq_true_iff, beq_iff_eq, len0]
def fits (n : Nat) (e : Int) : Bool := decide (n < big ∧ -32768 ≤ e ∧ e ≤ 32768)
theorem fits_iff {n : Nat} {e : Int} : fits n e = true ↔ n < big ∧ -32768 ≤ e ∧ e ≤ 32768 := decide_eq_true_iff
theorem fits_hi {n : Nat} {e : Int} (h : n < big) (g : e ≥ -32768) : fits n e = decide (e ≤ 32768) := by
 rw [Bool.eq_iff_iff, fits_iff, decide_eq_true_iff]
 exact ⟨fun c => c.2.2, fun c => ⟨h, g, c⟩⟩
theorem fits_no {n : Nat} {e : Int} (h : ¬ (n < big ∧ -32768 ≤ e ∧ e ≤ 32768)) : fits n e = false := by
 rw [Bool.eq_false_iff]; exact fun c => h (fits_iff.1 c)
theorem len_big' (v : Nat) : (((ofN v).length : Nat) : Int) ≤ 1024 ↔ v < big := by rw [← ofN_big]; omega
theorem Fits_eq (s : Bool) (l : List Int) (e : Int) (k : Nat) (hw : Ws l) (hl : l.length < 17592186044000) (hk : 100000000000000000 ≤ k) : raw_Fits.f k s l e = some (fits (val l) e) := by
 unfold raw_Fits.f
 rw [trim_eq l k hw (by omega) (by omega), bind_s]
 by_cases h : val l < big
 ·rw [if_pos ((len_big' _).2 h)]
  by_cases g : e ≥ -32768
  ·rw [if_pos g, fits_hi h g]
  rw [if_neg g, fits_no (fun c => g c.2.1)]
 rw [if_neg (fun c => h ((len_big' _).1 c))]; rw [fits_no (fun c => h c.1)]
theorem right_eq (s : Bool) (l : List Int) (e : Int) (k : Nat) (hw : Ws l) (hl : l.length < 17592186044000) (hk : 100000000000000000 ≤ k) : dyad_number_right.f k s l e = some (fits (val l) e) := by
 unfold dyad_number_right.f
 rw [Fits_eq s l e k hw hl hk, bind_s]
def roomS (d : Bool × List Int × Int) : Bool × List Int × Int × Int := if fits (val d.2.1) d.2.2 = true then (d.1, d.2.1, d.2.2, 0) else (false, [], 0, 3)
theorem room_eq (s : Bool) (l : List Int) (e : Int) (k : Nat) (hw : Ws l) (hl : l.length < 17592186044000) (hk : 100000000000000000 ≤ k) : dyad_room.f k s l e = some (roomS (s, l, e)) := by
 unfold dyad_room.f roomS
 rw [Fits_eq s l e k hw hl hk, bind_s]
 split <;> rfl
structure Rt (l : List Int) (e : Int) : Prop where
 ws : Ws l
 len : l.length < 17592186044000
 sm : (ofN (val l)).length ≤ 8192
 lo : -1000000 ≤ e
 hi : e ≤ 1000000
theorem Rt.lowE {l : List Int} {e : Int} (h : Rt l e) : Nf.lowE ≤ e := by have := h.lo; unfold Nf.lowE; omega
theorem One_eq (s : Bool) (l : List Int) (e : Int) (k : Nat) (h : Rt l e) (hk : 100000000000000000 ≤ k) : raw_One.f k s l e = some (cf s (val l) e) := by
 unfold raw_One.f
 rw [Form_eq s l e k h.ws h.len (by have := h.lo; omega) (by have := h.hi; omega) hk, bind_s]
theorem mn_eq (a b : Int) : mn a b = min a b := by unfold mn; rw [Int.min_def]; split <;> split <;> omega
theorem sub_nat {a E : Int} (h : E ≤ a) (h1 : a - E < 1000000000000) : wrap64 (a - E) = (((a - E).toNat : Nat) : Int) := by
 rw [wrapS (by omega) (by omega)]; omega
theorem amounts_eq (s1 s2 : Bool) (a b : Nat) (e1 e2 E : Int) (k : Nat) (hE : E = min e1 e2) (ha : (ofN a).length ≤ 8192) (hb : (ofN b).length ≤ 8192) (l1 : -2000000 ≤ e1) (u1 : e1 ≤ 2000000) (l2 : -2000000 ≤ e2) (u2 : e2 ≤ 2000000) (hk : 100000000000000000 ≤ k) :
  raw_amounts.f k s1 (ofN a) e1 s2 (ofN b) e2 = some (ofN (a * 2 ^ (e1 - E).toNat), ofN (b * 2 ^ (e2 - E).toNat), E) := by
 unfold raw_amounts.f
 have h1 : E ≤ e1 := by omega
 have h2 : E ≤ e2 := by omega
 have h3 : (e1 - E).toNat ≤ 4000000 := by omega
 have h4 : (e2 - E).toNat ≤ 4000000 := by omega
 rw [mn_eq, ← hE, sub_nat h1 (by omega), sub_nat h2 (by omega)]
 generalize (e1 - E).toNat = i at *
 generalize (e2 - E).toNat = j at *
 rw [lShl_eq (ofN a) i k (ws_ofN a) (by omega) (by omega) (by omega), bind_s, lShl_eq (ofN b) j k (ws_ofN b) (by omega) (by omega) (by omega), bind_s, val_ofN, val_ofN]
theorem wcmpI_ge {x y : Nat} : cmpI x y ≥ 0 ↔ y ≤ x := by unfold cmpI; split <;> (try split) <;> omega
theorem sum_cz {s1 s2 : Bool} {x y : Nat} {E : Int} (hE : lowE ≤ E) :
  (s1 = s2 → cf s1 (x + y) E = cz (Vz (sg s1 x) E + Vz (sg s2 y) E) lowE) ∧ (s1 ≠ s2 → y ≤ x → cf s1 (x - y) E = cz (Vz (sg s1 x) E + Vz (sg s2 y) E) lowE) ∧ (s1 ≠ s2 → x ≤ y → cf s2 (y - x) E = cz (Vz (sg s1 x) E + Vz (sg s2 y) E) lowE) := by
 refine ⟨?_, ?_, ?_⟩
 ·rintro rfl; rw [cf_cz, cz_Vz hE, sg_add, Vz_add]
 ·intro h g
  have : s2 = !s1 := by cases s1 <;> cases s2 <;> simp_all
  rw [cf_cz, cz_Vz hE, sg_sub _ g, Vz_add, this]
 intro h g
 have : s1 = !s2 := by cases s1 <;> cases s2 <;> simp_all
 rw [cf_cz, cz_Vz hE, sg_sub _ g, Vz_add, this, Int.add_comm]
theorem scale {s : Bool} {o : Nat} {e E : Int} (h : lowE ≤ E) (g : E ≤ e) : Vz (sg s (o * 2 ^ (e - E).toNat)) E = Vz (sg s o) e := by
 rw [sg_shl, Vz_shl h]; congr 1; omega
theorem vl_parts {n : Nat} {e : Int} (h : lowE ≤ e) (s : Bool) : Vz (sg s (od n)) (e + (tz n : Int)) = Vz (sg s n) e := by
 rw [← Vz_shl h, ← sg_shl, od_mul]
theorem tz_small {n : Nat} (h : n ≠ 0) (hl : (ofN n).length ≤ 8192) : (tz n : Int) ≤ 600000 := by
 have := tz_lt h
 have := bl_len hl
 omega
theorem wAdd_eq (s1 s2 : Bool) (l1 l2 : List Int) (e1 e2 : Int) (k : Nat) (h1 : Rt l1 e1) (h2 : Rt l2 e2) (hk : 200000000000000000 ≤ k) : raw_Add.f k s1 l1 e1 s2 l2 e2 = some (cz (vl s1 l1 e1 + vl s2 l2 e2) lowE) := by
 unfold raw_Add.f
 have b1 := h1.lowE
 have b2 := h2.lowE
 have hv1 := h1.sm
 have hv2 := h2.sm
 have d1 := h1.lo; have d2 := h1.hi; have d3 := h2.lo; have d4 := h2.hi
 rw [One_eq s1 l1 e1 k h1 (by omega), bind_s, One_eq s2 l2 e2 k h2 (by omega), bind_s]
 have f1 := cf_vl b1 s1 l1
 have f2 := cf_vl b2 s2 l2
 have v1 : vl s1 l1 e1 = Vz (sg s1 (val l1)) e1 := rfl
 have v2 : vl s2 l2 e2 = Vz (sg s2 (val l2)) e2 := rfl
 generalize val l1 = n1 at *
 generalize val l2 = n2 at *
 by_cases z1 : n1 = 0
 ·have : (cf s1 n1 e1).2.1 = [] := by rw [z1, cf_zero]
  rw [this, Zero_eq _ _ _ k ws_nil (by simp) (by omega), bind_s, if_pos (by rw [val_nil]; rfl), f2, v1, z1, sg_zero, Vz_zero, Int.zero_add]
 have c1 := cf_ne z1 s1 e1
 have o1 := od_ne z1
 rw [c1, Zero_eq _ _ _ k (ws_ofN _) (by have := len_od n1; show (ofN (od n1)).length < _; omega) (by omega), bind_s]
 rw [if_neg (by rw [val_ofN]; simpa using o1)]
 by_cases z2 : n2 = 0
 ·have : (cf s2 n2 e2).2.1 = [] := by rw [z2, cf_zero]
  rw [this, Zero_eq _ _ _ k ws_nil (by simp) (by omega), bind_s, if_pos (by rw [val_nil]; rfl), ← c1, f1, v2, z2, sg_zero, Vz_zero, Int.add_zero]
 have c2 := cf_ne z2 s2 e2
 have o2 := od_ne z2
 rw [c2, Zero_eq _ _ _ k (ws_ofN _) (by have := len_od n2; show (ofN (od n2)).length < _; omega) (by omega), bind_s]
 rw [if_neg (by rw [val_ofN]; simpa using o2)]
 have t1 := tz_small z1 hv1
 have t2 := tz_small z2 hv2
 have p1 := vl_parts b1 s1 (n := n1)
 have p2 := vl_parts b2 s2 (n := n2)
 have q1 := len_od n1
 have q2 := len_od n2
 show raw_Add.j0 k s1 (ofN (od n1)) (e1 + (tz n1 : Int)) s2 (ofN (od n2)) (e2 + (tz n2 : Int)) = _
 have g1 : -2000000 ≤ e1 + (tz n1 : Int) ∧ e1 + (tz n1 : Int) ≤ 2000000 := by omega
 have g2 : -2000000 ≤ e2 + (tz n2 : Int) ∧ e2 + (tz n2 : Int) ≤ 2000000 := by omega
 rw [v1, v2, ← p1, ← p2]
 generalize od n1 = x at *
 generalize od n2 = y at *
 generalize e1 + (tz n1 : Int) = a1 at *
 generalize e2 + (tz n2 : Int) = a2 at *
 obtain ⟨k, rfl⟩ : ∃ m, k = m + 1 := ⟨k - 1, by omega⟩
 obtain ⟨E, hE⟩ : ∃ E, E = min a1 a2 := ⟨_, rfl⟩
 simp only [raw_Add.j0]
 rw [amounts_eq s1 s2 x y a1 a2 E k hE (by omega) (by omega) g1.1 g1.2 g2.1 g2.2 (by omega), bind_s]
 have lE : lowE ≤ E := by have := g1.1; have := g2.1; unfold lowE; omega
 have bE : -2000000 ≤ E ∧ E ≤ 2000000 := by omega
 have w1 : E ≤ a1 := by omega
 have w2 : E ≤ a2 := by omega
 have y1 : (a1 - E).toNat ≤ 4000000 := by omega
 have y2 : (a2 - E).toNat ≤ 4000000 := by omega
 have L1 := len_shl (Nat.le_trans q1 hv1) (a1 - E).toNat
 have L2 := len_shl (Nat.le_trans q2 hv2) (a2 - E).toNat
 have S1 := scale (s := s1) (o := x) lE w1
 have S2 := scale (s := s2) (o := y) lE w2
 have M1 : (ofN (x * 2 ^ (a1 - E).toNat)).length ≤ 100000 := by omega
 have M2 : (ofN (y * 2 ^ (a2 - E).toNat)).length ≤ 100000 := by omega
 generalize x * 2 ^ (a1 - E).toNat = X at *
 generalize y * 2 ^ (a2 - E).toNat = Y at *
 rw [← S1, ← S2]
 obtain ⟨r1, r2, r3⟩ := sum_cz (s1 := s1) (s2 := s2) (x := X) (y := Y) lE
 by_cases hs : s1 = s2
 ·rw [if_pos (by rw [beq_iff_eq]; exact hs), lAdd_eq _ _ (ws_ofN X) (ws_ofN Y) (by omega) (by omega) k (by omega), bind_s, val_ofN, val_ofN]
  have M3 : (ofN (X + Y)).length < 17592186044000 := by
   have := wlen_add M1 M2
   omega
  rw [Form_eq s1 _ E k (ws_ofN _) M3 (by omega) (by omega) (by omega), bind_s, val_ofN, r1 hs]
 rw [if_neg (by rw [beq_iff_eq]; exact hs)]
 obtain ⟨k, rfl⟩ : ∃ m, k = m + 1 := ⟨k - 1, by omega⟩
 simp only [raw_Add.j1]
 rw [lCmp_eq _ _ k (ws_ofN X) (ws_ofN Y) (by omega) (by omega) (by omega), bind_s, val_ofN, val_ofN]
 by_cases g : Y ≤ X
 ·rw [if_pos (wcmpI_ge.2 g), lSub_eq X Y g k (by omega) (by omega), bind_s]
  have M3 : (ofN (X - Y)).length < 17592186044000 := by have := ofN_len_le (Nat.sub_le X Y); omega
  rw [Form_eq s1 _ E k (ws_ofN _) M3 (by omega) (by omega) (by omega), bind_s, val_ofN, r2 hs g]
 have g' : X ≤ Y := by omega
 rw [if_neg (fun c => g (wcmpI_ge.1 c)), lSub_eq Y X g' k (by omega) (by omega), bind_s]
 have M3 : (ofN (Y - X)).length < 17592186044000 := by have := ofN_len_le (Nat.sub_le Y X); omega
 rw [Form_eq s2 _ E k (ws_ofN _) M3 (by omega) (by omega) (by omega), bind_s, val_ofN, r3 hs g']
end Go.Proofs.YtnjfckadjklmfaaDoor.Nf

namespace Go.Proofs.YtnjfckadjklmfaaDoor.Nf
open Go.RowKit Go.Proofs.YtnjfckadjklmfaaDoor.PAll Go.Proofs.YtnjfckadjklmfaaDoorW.PrintWords Go.Proofs.YtnjfckadjklmfaaDoorW.PrintLast Go.Proofs.YtnjfckadjklmfaaDoorW.PrintMore Go.Proofs.YtnjfckadjklmfaaDoor.Nm
set_option linter.unusedVariables false
set_option linter.unusedSimpArgs false
structure Rs (l : List Int) (e : Int) : Prop where
 ws : Ws l
 len : l.length < 17592186044000
 sm : (ofN (val l)).length ≤ 2000
 lo : -200000 ≤ e
 hi : e ≤ 200000
theorem Rs.t {l : List Int} {e : Int} (h : Rs l e) : Rt l e := ⟨h.ws, h.len, by have := h.sm; omega, by have := h.lo; omega, by have := h.hi; omega⟩
theorem rs_fits {l : List Int} {e : Int} (hw : Ws l) (hl : l.length < 17592186044000) (h : fits (val l) e = true) : Rs l e := by
 obtain ⟨a, b, c⟩ := fits_iff.1 h
 exact ⟨hw, hl, by have := len_big a; omega, by omega, by omega⟩
theorem rt_cf (s : Bool) {n : Nat} {e : Int} (hn : (ofN n).length ≤ 2000) (h0 : -400000 ≤ e) (h1 : e ≤ 400000) : Rt (cf s n e).2.1 (cf s n e).2.2 := by
 by_cases h : n = 0
 ·rw [h, cf_zero]; exact ⟨ws_nil, by simp, by rw [val_nil, ofN_zero]; simp, by show (-1000000 : Int) ≤ 0; omega, by show (0 : Int) ≤ 1000000; omega⟩
 rw [cf_ne h]
 have a := len_od n
 have t := tz_lt h
 have b := bl_len hn
 refine ⟨ws_ofN _, ?_, ?_, ?_, ?_⟩
 ·show (ofN (od n)).length < _; omega
 ·show (ofN (val (ofN (od n)))).length ≤ _; rw [val_ofN]; omega
 ·show -1000000 ≤ e + (tz n : Int); omega
 show e + (tz n : Int) ≤ 1000000; omega
theorem Neg_eq (s : Bool) (l : List Int) (e : Int) (k : Nat) (h : Rt l e) (hk : 100000000000000000 ≤ k) : raw_Neg.f k s l e = some (cf (!s) (val l) e) := by
 unfold raw_Neg.f
 rw [Form_eq _ l e k h.ws h.len (by have := h.lo; omega) (by have := h.hi; omega) hk, bind_s]
theorem vl_neg (s : Bool) (l : List Int) (e : Int) : vl (!s) l e = - vl s l e := by unfold vl; rw [sg_neg, Vz_neg]
theorem wSub_eq (s1 s2 : Bool) (l1 l2 : List Int) (e1 e2 : Int) (k : Nat) (h1 : Rt l1 e1) (h2 : Rs l2 e2) (hk : 200000000000000000 ≤ k) : raw_Sub.f k s1 l1 e1 s2 l2 e2 = some (cz (vl s1 l1 e1 - vl s2 l2 e2) lowE) := by
 unfold raw_Sub.f
 rw [Neg_eq s2 l2 e2 k h2.t (by omega), bind_s, wAdd_eq _ _ _ _ _ _ k h1 (rt_cf _ h2.sm (by have := h2.lo; omega) (by have := h2.hi; omega)) hk, bind_s, vl_cf h2.t.lowE, sg_neg, Vz_neg]
 rfl
end Go.Proofs.YtnjfckadjklmfaaDoor.Nf

namespace Go.Proofs.YtnjfckadjklmfaaDoor.Nf
open Go.RowKit Go.Proofs.YtnjfckadjklmfaaDoor.PAll Go.Proofs.YtnjfckadjklmfaaDoorW.PrintWords Go.Proofs.YtnjfckadjklmfaaDoorW.PrintLast Go.Proofs.YtnjfckadjklmfaaDoorW.PrintMore Go.Proofs.YtnjfckadjklmfaaDoor.Nm
set_option linter.unusedVariables false
set_option linter.unusedSimpArgs false
def cmpZ (x y : Int) : Int := if x < y then -1 else if x = y then 0 else 1
def sI (s : Bool) (n : Nat) : Int := if n = 0 then 0 else if s = true then -1 else 1
theorem Sign_eq (s : Bool) (l : List Int) (e : Int) (k : Nat) (hw : Ws l) (hl : l.length < 17592186044000) (hk : 100000000000000000 ≤ k) : raw_Sign.f k s l e = some (sI s (val l)) := by
 unfold raw_Sign.f sI
 rw [Zero_eq s l e k hw hl hk, bind_s]
 by_cases h : val l = 0
 ·rw [if_pos (decide_eq_true h), if_pos h]
 rw [if_neg (by rw [decide_eq_true_iff]; exact h), if_neg h]; split <;> rfl
theorem Top_eq (s : Bool) (l : List Int) (e : Int) (k : Nat) (hw : Ws l) (hl : l.length < 17592186044000) (h0 : -1000000000000000 ≤ e) (h1 : e ≤ 1000000000000000) (hk : 100000000000000000 ≤ k) : raw_Top.f k s l e = some (e + (bl (val l) : Int) - 1) := by
 unfold raw_Top.f
 have hn : (ofN (val l)).length ≤ l.length := (ofN_len (val l) l.length).2 (val_lt hw)
 have hb := bl_len hn
 rw [lLen_eq l k hw hl (by omega), bind_s, wrapS (x := e + _) (by omega) (by omega), wrapS (by omega) (by omega)]
def am (n : Nat) (e : Int) : Nat := n * 2 ^ (e - lowE).toNat
theorem Vz_am (s : Bool) (n : Nat) (e : Int) : Vz (sg s n) e = sg s (am n e) := by unfold Vz am; rw [sg_shl]
theorem am_pos {n : Nat} (h : n ≠ 0) (e : Int) : am n e ≠ 0 := Nat.ne_of_gt (Nat.mul_pos (Nat.pos_of_ne_zero h) (Nat.pow_pos (by decide)))
theorem am_bl {n : Nat} (h : n ≠ 0) {e : Int} (g : lowE ≤ e) : (bl (am n e) : Int) = bl n + (e - lowE) := by
 unfold am; rw [bl_shl h]; omega
theorem am_lt {n m : Nat} {e f : Int} (hn : n ≠ 0) (hm : m ≠ 0) (he : lowE ≤ e) (hf : lowE ≤ f) (h : e + (bl n : Int) < f + (bl m : Int)) : am n e < am m f := by
 refine Classical.byContradiction fun g => ?_
 have := bl_mono (Nat.le_of_not_lt g)
 have a := am_bl hn he
 have b := am_bl hm hf
 omega
theorem am_parts {n : Nat} {e : Int} (h : lowE ≤ e) : am (od n) (e + (tz n : Int)) = am n e := by
 have := vl_parts h false (n := n)
 rw [Vz_am, Vz_am] at this
 have := congrArg Int.natAbs this
 rwa [sg_abs, sg_abs] at this
theorem cmpZ_sg (s : Bool) (x y : Nat) : cmpZ (sg s x) (sg s y) = if s = true then - cmpI x y else cmpI x y := by
 unfold cmpZ cmpI
 cases s
 ·simp only [sg, Bool.false_eq_true, if_false]
  split <;> split <;> (try split) <;> (try split) <;> omega
 simp only [sg, if_true]
 split <;> (try split) <;> (try split) <;> (try split) <;> omega
theorem cmpI_scale {x y c : Nat} (hc : 0 < c) : cmpI (x * c) (y * c) = cmpI x y := by
 unfold cmpI
 have a : x * c < y * c ↔ x < y := Nat.mul_lt_mul_right hc
 have b : x * c = y * c ↔ x = y := Nat.mul_left_inj (Nat.ne_of_gt hc)
 by_cases h : x < y
 ·rw [if_pos h, if_pos (a.2 h)]
 rw [if_neg h, if_neg (fun c => h (a.1 c))]
 by_cases g : x = y
 ·rw [if_pos g, if_pos (b.2 g)]
 rw [if_neg g, if_neg (fun c => g (b.1 c))]
theorem cmp_signs (s1 s2 : Bool) (N M : Nat) : (sI s1 N < sI s2 M → cmpZ (sg s1 N) (sg s2 M) = -1) ∧ (sI s1 N > sI s2 M → cmpZ (sg s1 N) (sg s2 M) = 1) ∧ (sI s1 N = 0 → sI s2 M = 0 → cmpZ (sg s1 N) (sg s2 M) = 0) := by
 unfold sI cmpZ sg
 refine ⟨?_, ?_, ?_⟩
 all_goals
  cases s1 <;> cases s2 <;> simp only [Bool.false_eq_true, if_false, if_true] <;> intros <;> (repeat' split at *) <;> omega
theorem sI_same {s1 s2 : Bool} {N M : Nat} (h : sI s1 N = sI s2 M) (h0 : sI s1 N ≠ 0) : N ≠ 0 ∧ M ≠ 0 ∧ s1 = s2 ∧ sI s1 N = if s1 = true then -1 else 1 := by
 unfold sI at *
 by_cases a : N = 0
 ·simp [a] at h0
 by_cases b : M = 0
 ·simp [a, b] at h; cases s1 <;> simp at h
 cases s1 <;> cases s2 <;> simp_all
theorem sI_am (s : Bool) (n : Nat) (e : Int) : sI s (am n e) = sI s n := by
 unfold sI
 by_cases h : n = 0
 ·subst h; unfold am; rw [Nat.zero_mul]
 rw [if_neg h, if_neg (am_pos h e)]
theorem wrap_small {x : Int} (h : x = -1 ∨ x = 0 ∨ x = 1) : wrap64 x = x := wrapS (by omega) (by omega)
theorem cmpI_small (x y : Nat) : cmpI x y = -1 ∨ cmpI x y = 0 ∨ cmpI x y = 1 := by unfold cmpI; split <;> (try split) <;> simp
theorem cmpI_gt {x y : Nat} (h : y < x) : cmpI x y = 1 := by unfold cmpI; rw [if_neg (Nat.not_lt.2 (Nat.le_of_lt h)), if_neg (Nat.ne_of_gt h)]
theorem cmpI_lt {x y : Nat} (h : x < y) : cmpI x y = -1 := by unfold cmpI; rw [if_pos h]
theorem Cmp_eq' (s1 s2 : Bool) (l1 l2 : List Int) (e1 e2 : Int) (k : Nat) (h1 : Rt l1 e1) (h2 : Rt l2 e2) (hk : 100000000000000000 ≤ k) : raw_Cmp.f k s1 l1 e1 s2 l2 e2 = some (cmpZ (vl s1 l1 e1) (vl s2 l2 e2)) := by
 unfold raw_Cmp.f
 have b1 := h1.lowE
 have b2 := h2.lowE
 have hv1 := h1.sm
 have hv2 := h2.sm
 have d1 := h1.lo; have d2 := h1.hi; have d3 := h2.lo; have d4 := h2.hi
 rw [Sign_eq s1 l1 e1 k h1.ws h1.len hk, bind_s, Sign_eq s2 l2 e2 k h2.ws h2.len hk, bind_s, Top_eq s1 l1 e1 k h1.ws h1.len (by omega) (by omega) hk, Top_eq s2 l2 e2 k h2.ws h2.len (by omega) (by omega) hk, One_eq s1 l1 e1 k h1 hk, One_eq s2 l2 e2 k h2 hk]
 unfold vl
 generalize val l1 = n1 at *
 generalize val l2 = n2 at *
 rw [Vz_am, Vz_am]
 obtain ⟨c1, c2, c3⟩ := cmp_signs s1 s2 (am n1 e1) (am n2 e2)
 rw [sI_am, sI_am] at c1 c2 c3
 by_cases q1 : sI s1 n1 < sI s2 n2
 ·rw [if_pos q1, c1 q1]
 rw [if_neg q1]
 by_cases q2 : sI s1 n1 > sI s2 n2
 ·rw [if_pos q2, c2 q2]
 rw [if_neg q2]
 have q3 : sI s1 n1 = sI s2 n2 := by omega
 by_cases q0 : sI s1 n1 = 0
 ·rw [if_pos q0, c3 q0 (q3 ▸ q0)]
 rw [if_neg q0, bind_s, bind_s]
 obtain ⟨z1, z2, rfl, hs⟩ := sI_same q3 q0
 rw [hs, cmpZ_sg]
 by_cases t : e1 + (bl n1 : Int) - 1 = e2 + (bl n2 : Int) - 1
 ·rw [if_pos t, bind_s, bind_s, cf_ne z1, cf_ne z2]
  have t1 := tz_small z1 hv1
  have t2 := tz_small z2 hv2
  have p1 := am_parts b1 (n := n1)
  have p2 := am_parts b2 (n := n2)
  have r1 := len_od n1
  have r2 := len_od n2
  rw [← p1, ← p2]
  have g1 : -2000000 ≤ e1 + (tz n1 : Int) ∧ e1 + (tz n1 : Int) ≤ 2000000 := by omega
  have g2 : -2000000 ≤ e2 + (tz n2 : Int) ∧ e2 + (tz n2 : Int) ≤ 2000000 := by omega
  show (raw_amounts.f k s1 (ofN (od n1)) (e1 + (tz n1 : Int)) s1 (ofN (od n2)) (e2 + (tz n2 : Int))).bind _ = _
  generalize od n1 = x at *
  generalize od n2 = y at *
  generalize e1 + (tz n1 : Int) = a1 at *
  generalize e2 + (tz n2 : Int) = a2 at *
  obtain ⟨E, hE⟩ : ∃ E, E = min a1 a2 := ⟨_, rfl⟩
  rw [amounts_eq s1 s1 x y a1 a2 E k hE (by omega) (by omega) g1.1 g1.2 g2.1 g2.2 (by omega), bind_s]
  have lE : lowE ≤ E := by have := g1.1; have := g2.1; unfold lowE; omega
  have w1 : E ≤ a1 := by omega
  have w2 : E ≤ a2 := by omega
  have y1 : (a1 - E).toNat ≤ 4000000 := by omega
  have y2 : (a2 - E).toNat ≤ 4000000 := by omega
  have L1 := len_shl (Nat.le_trans r1 hv1) (a1 - E).toNat
  have L2 := len_shl (Nat.le_trans r2 hv2) (a2 - E).toNat
  have A1 : am x a1 = x * 2 ^ (a1 - E).toNat * 2 ^ (E - lowE).toNat := by
   unfold am; rw [Nat.mul_assoc, ← Nat.pow_add]; congr 2; omega
  have A2 : am y a2 = y * 2 ^ (a2 - E).toNat * 2 ^ (E - lowE).toNat := by
   unfold am; rw [Nat.mul_assoc, ← Nat.pow_add]; congr 2; omega
  rw [A1, A2, cmpI_scale (Nat.pow_pos (by decide))]
  have M1 : (ofN (x * 2 ^ (a1 - E).toNat)).length ≤ 100000 := by omega
  have M2 : (ofN (y * 2 ^ (a2 - E).toNat)).length ≤ 100000 := by omega
  generalize x * 2 ^ (a1 - E).toNat = X at *
  generalize y * 2 ^ (a2 - E).toNat = Y at *
  rw [lCmp_eq _ _ k (ws_ofN X) (ws_ofN Y) (by omega) (by omega) (by omega), bind_s, val_ofN, val_ofN]
  have := cmpI_small X Y
  cases s1
  ·simp only [Bool.false_eq_true, if_false, Int.one_mul]; rw [wrap_small this]
  simp only [if_true]; rw [Int.neg_one_mul, wrap_small (by omega)]
 rw [if_neg t]
 by_cases u : e1 + (bl n1 : Int) - 1 < e2 + (bl n2 : Int) - 1
 ·have := am_lt z1 z2 b1 b2 (by omega)
  rw [if_pos u]
  rw [cmpI_lt this]
  cases s1
  ·simp only [Bool.false_eq_true, if_false]; rw [wrap_small (by omega)]
  simp only [if_true]; rw [wrap_small (by omega)]
 have := am_lt z2 z1 b2 b1 (by omega)
 rw [if_neg u, cmpI_gt this]
end Go.Proofs.YtnjfckadjklmfaaDoor.Nf

namespace Go.Proofs.YtnjfckadjklmfaaDoor.Nf
open Go.RowKit Go.Proofs.YtnjfckadjklmfaaDoor.PAll Go.Proofs.YtnjfckadjklmfaaDoorW.PrintWords Go.Proofs.YtnjfckadjklmfaaDoorW.PrintLast Go.Proofs.YtnjfckadjklmfaaDoorW.PrintMore Go.Proofs.YtnjfckadjklmfaaDoor.Nm
set_option linter.unusedVariables false
set_option linter.unusedSimpArgs false
structure Wl (l : List Int) : Prop where
 ws : Ws l
 len : l.length < 17592186044000
theorem wl_nil : Wl [] := ⟨ws_nil, by simp⟩
theorem wl_ofN {v : Nat} (h : (ofN v).length < 17592186044000) : Wl (ofN v) := ⟨ws_ofN v, h⟩
theorem wl_cf (s : Bool) {n : Nat} (e : Int) (h : (ofN n).length < 17592186044000) : Wl (cf s n e).2.1 := by
 by_cases z : n = 0
 ·rw [z, cf_zero]; exact wl_nil
 rw [cf_ne z]; exact wl_ofN (Nat.lt_of_le_of_lt (len_od n) h)
theorem wl_cz {Z : Int} (e : Int) (h : (ofN Z.natAbs).length < 17592186044000) : Wl (cz Z e).2.1 := wl_cf _ _ h
theorem Rs.wl {l : List Int} {e : Int} (h : Rs l e) : Wl l := ⟨h.ws, h.len⟩
theorem Rt.wl {l : List Int} {e : Int} (h : Rt l e) : Wl l := ⟨h.ws, h.len⟩
def bad (c : Int) : Bool × List Int × Int × Int := (false, [], 0, c)
theorem am_len {n : Nat} {e : Int} (h : (ofN n).length ≤ 16384) (h1 : e ≤ 2000000) : (ofN (am n e)).length ≤ 120000 := by
 refine Nat.le_trans (len_shl h _) ?_
 have : (e - lowE).toNat ≤ 6000000 := by unfold lowE; omega
 omega
theorem vl_abs (s : Bool) (l : List Int) (e : Int) : (vl s l e).natAbs = am (val l) e := by unfold vl; rw [Vz_am, sg_abs]
theorem len_vadd {s1 s2 : Bool} {l1 l2 : List Int} {e1 e2 : Int} (h1 : Rt l1 e1) (h2 : Rt l2 e2) : (ofN (vl s1 l1 e1 + vl s2 l2 e2).natAbs).length ≤ 120001 := by
 have a := am_len (n := val l1) (e := e1) (by have := h1.sm; omega) (by have := h1.hi; omega)
 have b := am_len (n := val l2) (e := e2) (by have := h2.sm; omega) (by have := h2.hi; omega)
 have c : (vl s1 l1 e1 + vl s2 l2 e2).natAbs ≤ am (val l1) e1 + am (val l2) e2 := by
  have := Int.natAbs_add_le (vl s1 l1 e1) (vl s2 l2 e2)
  rwa [vl_abs, vl_abs] at this
 exact Nat.le_trans (ofN_len_le c) (wlen_add a b)
theorem len_vsub {s1 s2 : Bool} {l1 l2 : List Int} {e1 e2 : Int} (h1 : Rt l1 e1) (h2 : Rt l2 e2) : (ofN (vl s1 l1 e1 - vl s2 l2 e2).natAbs).length ≤ 120001 := by
 have := len_vadd (s1 := s1) (s2 := !s2) h1 h2
 rwa [vl_neg, ← Int.sub_eq_add_neg] at this
noncomputable def twoS (Z : Int) (n1 : Nat) (e1 : Int) (n2 : Nat) (e2 : Int) : Bool × List Int × Int × Int := if fits n1 e1 = true ∧ fits n2 e2 = true then roomS (cz Z lowE) else bad 2
theorem dAdd_eq (s1 s2 : Bool) (l1 l2 : List Int) (e1 e2 : Int) (k : Nat) (w1 : Wl l1) (w2 : Wl l2) (hk : 200000000000000000 ≤ k) : dyad_Add.f k s1 l1 e1 s2 l2 e2 = some (twoS (vl s1 l1 e1 + vl s2 l2 e2) (val l1) e1 (val l2) e2) := by
 unfold dyad_Add.f twoS
 rw [right_eq s1 l1 e1 k w1.ws w1.len (by omega), bind_s]
 by_cases h1 : fits (val l1) e1 = true
 ·rw [if_pos h1, right_eq s2 l2 e2 k w2.ws w2.len (by omega), bind_s]
  by_cases h2 : fits (val l2) e2 = true
  ·have g1 := rs_fits w1.ws w1.len h1
   have g2 := rs_fits w2.ws w2.len h2
   have c := wl_cz lowE (Nat.lt_of_le_of_lt (len_vadd (s1 := s1) (s2 := s2) g1.t g2.t) (by decide))
   rw [if_pos h2, if_pos ⟨h1, h2⟩, wAdd_eq s1 s2 l1 l2 e1 e2 k g1.t g2.t hk, bind_s, room_eq _ _ _ k c.ws c.len (by omega), bind_s]
  rw [if_neg h2, if_neg (fun c => h2 c.2)]; rfl
 rw [if_neg h1, if_neg (fun c => h1 c.1)]; rfl
theorem dSub_eq (s1 s2 : Bool) (l1 l2 : List Int) (e1 e2 : Int) (k : Nat) (w1 : Wl l1) (w2 : Wl l2) (hk : 200000000000000000 ≤ k) : dyad_Sub.f k s1 l1 e1 s2 l2 e2 = some (twoS (vl s1 l1 e1 - vl s2 l2 e2) (val l1) e1 (val l2) e2) := by
 unfold dyad_Sub.f twoS
 rw [right_eq s1 l1 e1 k w1.ws w1.len (by omega), bind_s]
 by_cases h1 : fits (val l1) e1 = true
 ·rw [if_pos h1, right_eq s2 l2 e2 k w2.ws w2.len (by omega), bind_s]
  by_cases h2 : fits (val l2) e2 = true
  ·have g1 := rs_fits w1.ws w1.len h1
   have g2 := rs_fits w2.ws w2.len h2
   have c := wl_cz lowE (Nat.lt_of_le_of_lt (len_vsub (s1 := s1) (s2 := s2) g1.t g2.t) (by decide))
   rw [if_pos h2, if_pos ⟨h1, h2⟩, wSub_eq s1 s2 l1 l2 e1 e2 k g1.t g2 hk, bind_s, room_eq _ _ _ k c.ws c.len (by omega), bind_s]
  rw [if_neg h2, if_neg (fun c => h2 c.2)]; rfl
 rw [if_neg h1, if_neg (fun c => h1 c.1)]; rfl
def cmpS (s1 : Bool) (l1 : List Int) (e1 : Int) (s2 : Bool) (l2 : List Int) (e2 : Int) : Int × Int := if fits (val l1) e1 = true ∧ fits (val l2) e2 = true then (cmpZ (vl s1 l1 e1) (vl s2 l2 e2), 0) else (0, 2)
theorem dCmp_eq (s1 s2 : Bool) (l1 l2 : List Int) (e1 e2 : Int) (k : Nat) (w1 : Wl l1) (w2 : Wl l2) (hk : 200000000000000000 ≤ k) : dyad_Cmp.f k s1 l1 e1 s2 l2 e2 = some (cmpS s1 l1 e1 s2 l2 e2) := by
 unfold dyad_Cmp.f cmpS
 rw [right_eq s1 l1 e1 k w1.ws w1.len (by omega), bind_s]
 by_cases h1 : fits (val l1) e1 = true
 ·rw [if_pos h1, right_eq s2 l2 e2 k w2.ws w2.len (by omega), bind_s]
  by_cases h2 : fits (val l2) e2 = true
  ·have g1 := rs_fits w1.ws w1.len h1
   have g2 := rs_fits w2.ws w2.len h2
   rw [if_pos h2, if_pos ⟨h1, h2⟩, Cmp_eq' s1 s2 l1 l2 e1 e2 k g1.t g2.t (by omega), bind_s]
  rw [if_neg h2, if_neg (fun c => h2 c.2)]
 rw [if_neg h1, if_neg (fun c => h1 c.1)]
end Go.Proofs.YtnjfckadjklmfaaDoor.Nf

namespace Go.Proofs.YtnjfckadjklmfaaDoor.Nf
open Go.RowKit Go.Proofs.YtnjfckadjklmfaaDoor.PAll Go.Proofs.YtnjfckadjklmfaaDoorW.PrintWords Go.Proofs.YtnjfckadjklmfaaDoorW.PrintLast Go.Proofs.YtnjfckadjklmfaaDoorW.PrintMore Go.Proofs.YtnjfckadjklmfaaDoor.Nm
set_option linter.unusedVariables false
set_option linter.unusedSimpArgs false
theorem len_word {v : Nat} (h : v < 18446744073709551616) : (ofN v).length ≤ 1 := (ofN_len v 1).2 (by rw [Nat.pow_one]; exact h)
theorem room_fits {d : Bool × List Int × Int} (h : fits (val d.2.1) d.2.2 = true) : roomS d = (d.1, d.2.1, d.2.2, 0) := by unfold roomS; exact if_pos h
end Go.Proofs.YtnjfckadjklmfaaDoor.Nf

namespace Go.Proofs.YtnjfckadjklmfaaDoor.Nf
open Go.RowKit Go.Proofs.YtnjfckadjklmfaaDoor.PAll Go.Proofs.YtnjfckadjklmfaaDoorW.PrintWords Go.Proofs.YtnjfckadjklmfaaDoorW.PrintLast Go.Proofs.YtnjfckadjklmfaaDoorW.PrintMore Go.Proofs.YtnjfckadjklmfaaDoor.Nm
set_option linter.unusedVariables false
set_option linter.unusedSimpArgs false
def fneg (x : Int) : Bool := decide (9223372036854775808 ≤ x)
theorem ws_one {v : Int} (h0 : 0 ≤ v) (h1 : v < 18446744073709551616) : Ws [v] := ws_cons.2 ⟨⟨h0, h1⟩, ws_nil⟩
theorem val_one (v : Int) : val [v] = v.toNat := by rw [val_cons, val_nil, Nat.mul_zero, Nat.add_zero]
theorem len_one (v : Int) : [v].length < 17592186044000 := by show 1 < 17592186044000; omega
def sX (s : Bool) : Int := if s = true then 9223372036854775808 else 0
theorem ofN_word {o : Nat} (h0 : o ≠ 0) (h : o < 18446744073709551616) : ofN o = [(o : Int)] := by
 rw [ofN_pos h0, Nat.mod_eq_of_lt h, Nat.div_eq_of_lt h, ofN_zero]
theorem bl_range {o : Nat} (h : o ≠ 0) : 2 ^ (bl o - 1) ≤ o ∧ o < 2 ^ bl o ∧ 1 ≤ bl o := by
 have a := bl_le h
 have b := bl_lt o
 have c : 1 ≤ bl o := Nat.pos_of_ne_zero (bl_ne h)
 refine ⟨?_, b, c⟩
 rw [show bl o = bl o - 1 + 1 by omega, Nat.pow_succ] at a
 omega
end Go.Proofs.YtnjfckadjklmfaaDoor.Nf

namespace Go.Proofs.YtnjfckadjklmfaaDoor.Nf
open Go.RowKit Go.Proofs.YtnjfckadjklmfaaDoor.PAll Go.Proofs.YtnjfckadjklmfaaDoorW.PrintWords Go.Proofs.YtnjfckadjklmfaaDoorW.PrintLast Go.Proofs.YtnjfckadjklmfaaDoorW.PrintMore Go.Proofs.YtnjfckadjklmfaaDoor.Nm
set_option linter.unusedVariables false
set_option linter.unusedSimpArgs false
theorem word_big {v : Nat} (h : v < 18446744073709551616) : v < big := by
 rw [← ofN_big]
 have := len_word h
 omega
theorem mant_parts {x : Int} (hx : Nb.W64 x) : 0 ≤ Nb.ex x ∧ Nb.ex x ≤ 2047 ∧ 0 ≤ Nb.fr x ∧ Nb.fr x < 4503599627370496 ∧ x % 9223372036854775808 = Nb.ex x * 4503599627370496 + Nb.fr x ∧ x = Nb.ex x * 4503599627370496 + Nb.fr x + sX (fneg x) := by
 obtain ⟨a, b⟩ := hx
 have s : sX (fneg x) = if 9223372036854775808 ≤ x then 9223372036854775808 else 0 := by
  unfold sX fneg
  by_cases h : 9223372036854775808 ≤ x
  ·rw [if_pos (decide_eq_true h), if_pos h]
  rw [if_neg (by rw [decide_eq_true_iff]; exact h), if_neg h]
 rw [s]
 unfold Nb.ex Nb.fr
 split <;> omega
end Go.Proofs.YtnjfckadjklmfaaDoor.Nf
