/- Plain part. -/
import Derived.Test.YtjnfipkbgmdpaaaDoorXAlgMirrorN1
import Derived.Test.YtjnfipkbgmdpaaaDoorXAlgMirrorP0
import Derived.Test.YtjnfipkbgmdpaaaDoorXAlgMirrorP1
import Derived.Test.YtjnfipkbgmdpaaaDoorXAlgMirrorP6
import Derived.Test.YtjnfipkbgmdpaaaDoorXAlgMirrorP2
import Derived.Test.YtjnfipkbgmdpaaaDoorXAlgMirrorP4
import Derived.Test.YtjnfipkbgmdpaaaDoorXAlgMirrorP5
import Derived.Test.YtjnfipkbgmdpaaaDoorXAlgMirrorP10
import Derived.Test.YtjnfipkbgmdpaaaDoorXAlgMirrorP11
import Derived.Test.YtjnfipkbgmdpaaaDoorXAlgMirrorP9
import Derived.Test.YtjnfipkbgmdpaaaDoorXAlgMirrorP12
import Derived.Test.YtjnfipkbgmdpaaaDoorXAlgMirrorP13
import Derived.Test.YtjnfipkbgmdpaaaDoorXAlgMirrorN0
import Derived.Test.YtjnfipkbgmdpaaaDoorXAlgMirrorP7
import Derived.Test.YtjnfipkbgmdpaaaDoorXAlgMirrorP8
namespace Go.Proofs.YtjnfipkbgmdpaaaDoor.Nf
open Go.RowKit Go.Proofs.YtjnfipkbgmdpaaaDoor.PAll Go.Proofs.YtjnfipkbgmdpaaaDoorW.PrintWords Go.Proofs.YtjnfipkbgmdpaaaDoorW.PrintLast Go.Proofs.YtjnfipkbgmdpaaaDoorW.PrintMore Go.Proofs.YtjnfipkbgmdpaaaDoor.Nm
set_option linter.unusedVariables false
set_option linter.unusedSimpArgs false
theorem low_form (v : Nat) (h : v ≠ 0) : ∃ t m, v = 2 ^ t * (2 * m + 1) := by
 induction v using Nat.strongRecOn with
 | _ v ih =>
  by_cases g : v % 2 = 1
  ·exact ⟨0, v / 2, by rw [Nat.pow_zero]; omega⟩
  obtain ⟨t, m, e⟩ := ih (v / 2) (by omega) (by omega)
  exact ⟨t + 1, m, by rw [Nat.pow_succ, Nat.mul_right_comm, ← e]; omega⟩
theorem low_bit (t m n : Nat) (h : n ≤ t) : (2 ^ t * (2 * m + 1)) / 2 ^ n % 2 = if n = t then 1 else 0 := by
 have hp : 0 < 2 ^ n := Nat.pow_pos (by decide)
 obtain ⟨d, rfl⟩ : ∃ d, t = n + d := ⟨t - n, by omega⟩
 rw [Nat.pow_add, Nat.mul_assoc, Nat.mul_div_cancel_left _ hp]
 by_cases g : d = 0
 ·subst g; rw [if_pos (by omega), Nat.pow_zero]; omega
 rw [if_neg (by omega)]
 obtain ⟨e, rfl⟩ : ∃ e, d = e + 1 := ⟨d - 1, by omega⟩
 rw [Nat.pow_succ, Nat.mul_right_comm]; omega
theorem low_unique {t m s n : Nat} (h : 2 ^ t * (2 * m + 1) = 2 ^ s * (2 * n + 1)) : t = s := by
 rcases Nat.lt_trichotomy t s with g | g | g
 ·have a := low_bit t m t (Nat.le_refl _)
  have b := low_bit s n t (Nat.le_of_lt g)
  rw [h, b, if_neg (Nat.ne_of_lt g), if_pos rfl] at a; omega
 ·exact g
 have a := low_bit s n s (Nat.le_refl _)
 have b := low_bit t m s (Nat.le_of_lt g)
 rw [← h, b, if_neg (Nat.ne_of_lt g), if_pos rfl] at a; omega
theorem low_and (t a : Nat) (h : 2 ^ t * (2 * a + 1) < 2 ^ 64) : 2 ^ t * (2 * a + 1) &&& (2 ^ 64 - 2 ^ t * (2 * a + 1)) = 2 ^ t := by
 have hp : 0 < 2 ^ t := Nat.pow_pos (by decide)
 obtain ⟨c, hc⟩ : ∃ c, c + 1 = 2 ^ t * (2 * a + 1) := ⟨2 ^ t * (2 * a + 1) - 1, by have : 0 < 2 ^ t * (2 * a + 1) := Nat.mul_pos hp (by omega); omega⟩
 have hc2 : c = 2 ^ t * (2 * a) + (2 ^ t - 1) := by rw [Nat.mul_add] at hc; omega
 have ht : t < 64 := (Nat.pow_lt_pow_iff_right (a := 2) (by decide)).1 (Nat.lt_of_le_of_lt (Nat.le_mul_of_pos_right _ (by omega)) h)
 apply Nat.eq_of_testBit_eq
 intro i
 rw [Nat.testBit_and, Nat.testBit_two_pow, ← hc, Nat.testBit_two_pow_sub_succ (by omega), hc, hc2, Nat.testBit_two_pow_mul_add _ (by omega)]
 have e0 : 2 ^ t * (2 * a + 1) = 2 ^ t * (2 * a + 1) + 0 := rfl
 rw [e0, Nat.testBit_two_pow_mul_add _ hp]
 by_cases h1 : i < t
 ·have : t ≠ i := by omega
  simp [h1, this]
 rw [if_neg h1, if_neg h1]
 by_cases h2 : t = i
 ·subst h2
  rw [Nat.sub_self]; simp [ht]
 obtain ⟨j, hj⟩ : ∃ j, i - t = j + 1 := ⟨i - t - 1, by omega⟩
 rw [hj, Nat.testBit_succ, Nat.testBit_succ]
 have e1 : (2 * a + 1) / 2 = a := by omega
 have e2 : 2 * a / 2 = a := by omega
 rw [e1, e2]
 cases a.testBit j <;> simp [h2]
theorem tz_table : ∀ t : Fin 64, tzTab.getD (2 ^ t.val * 285870213051353865 % 18446744073709551616 / 288230376151711744) 0 = (t.val : Int) ∧ 2 ^ t.val * 285870213051353865 % 18446744073709551616 / 288230376151711744 < 64 := by decide +kernel
theorem Trail_eq {w t m : Nat} (hw : w = 2 ^ t * (2 * m + 1)) (h : w < 18446744073709551616) : bits_TrailingZeros64.f w = some (t : Int) ∧ t < 64 := by
 have hp : 0 < 2 ^ t := Nat.pow_pos (by decide)
 have h0 : 0 < w := by rw [hw]; exact Nat.mul_pos hp (by omega)
 have h64 : 2 ^ t * (2 * m + 1) < 2 ^ 64 := by rw [← hw]; exact h
 have ht : t < 64 := (Nat.pow_lt_pow_iff_right (a := 2) (by decide)).1 (Nat.lt_of_le_of_lt (Nat.le_mul_of_pos_right _ (by omega)) h64)
 have ha := low_and t m h64
 rw [← hw] at ha
 obtain ⟨b1, b2⟩ := tz_table ⟨t, ht⟩
 have e1 : IntKind.u64.wrap (-(w : Int)) = ((18446744073709551616 - w : Nat) : Int) := by rw [IntKind.wrap_u64]; omega
 have e2 : bits BinOp.and IntKind.u64 (w : Int) ((18446744073709551616 - w : Nat) : Int) = ((2 ^ t : Nat) : Int) := by
  rw [u64_and_nat w _ h (by omega)]
  exact congrArg Nat.cast ha
 have e3 : tzI (w : Int) = ((2 ^ t * 285870213051353865 % 18446744073709551616 / 288230376151711744 : Nat) : Int) := by
  unfold tzI
  rw [e1, e2]
  generalize 2 ^ t = p
  rw [IntKind.wrap_u64]; omega
 refine ⟨?_, ht⟩
 unfold bits_TrailingZeros64.f
 dsimp only at b1 b2
 rw [if_neg (by omega), e3, if_pos (Int.natCast_nonneg _), if_pos (by omega), Int.toNat_natCast, b1]
theorem bit_val {a : List Int} (ha : Ws a) (j s : Nat) (hs : s < 64) : val a / 2 ^ (64 * j + s) % 2 = (a.getD j 0).toNat / 2 ^ s % 2 := by
 have e : 2 ^ (64 * j + s) = 18446744073709551616 ^ j * 2 ^ s := by rw [Nat.pow_add, Nat.pow_mul]
 by_cases h : j < a.length
 ·have ht := val_take_lt ha j
  obtain ⟨h1, _⟩ := shr_all (S := 2 ^ s) ht (val_take_drop a j (Nat.le_of_lt h))
  rw [e, h1, val_drop a j h]
  have hp : 0 < 2 ^ s := Nat.pow_pos (by decide)
  have e2 : (18446744073709551616 : Nat) = 2 ^ s * (2 * 2 ^ (63 - s)) := by
   have := pow_split (show s ≤ 64 by omega)
   have e3 : 64 - s = (63 - s) + 1 := by omega
   rw [e3, Nat.pow_succ, Nat.mul_comm _ 2] at this
   exact this.symm
  generalize (a.getD j 0).toNat = w
  generalize val (a.drop (j + 1)) = r
  have e4 : (w + 18446744073709551616 * r) / 2 ^ s = w / 2 ^ s + 2 * 2 ^ (63 - s) * r := by
   have : w + 18446744073709551616 * r = w + 2 ^ s * (2 * 2 ^ (63 - s) * r) := by rw [← Nat.mul_assoc, ← e2]
   rw [this, Nat.add_mul_div_left _ _ hp]
  rw [e4, Nat.mul_assoc]
  omega
 rw [getD_ge a j (by omega), e]
 have : val a < 18446744073709551616 ^ j := Nat.lt_of_lt_of_le (val_lt ha) (Nat.pow_le_pow_right (by decide) (by omega))
 rw [← Nat.div_div_eq_div_mul, Nat.div_eq_of_lt this]; simp
theorem and1 {w : Nat} (hw : w < 18446744073709551616) : Go.bits .and .u64 (w : Int) 1 = ((w % 2 : Nat) : Int) := by
 have h := u64_and_nat w 1 hw (by decide)
 have e : w &&& 1 = w % 2 := Nat.and_two_pow_sub_one_eq_mod w 1
 rw [e] at h; exact h
theorem Bit_eq (a : List Int) (i : Int) (k : Nat) (ha : Ws a) (hi : i < 9223372036854775808) (na : a.length < 17592186044000) (hk : a.length < k) :
  nat_Bit.f k a i = some (if val a < big then (if i < 0 then (false, 2) else (decide (val a / 2 ^ i.toNat % 2 = 1), 0)) else (false, 3)) := by
 unfold nat_Bit.f
 rw [one_eq a k ha (by omega) (by omega), bind_s]
 by_cases h : val a < big
 ·simp only [if_pos h]
  rw [if_pos trivial]
  by_cases g : i < 0
  ·rw [if_pos g, if_pos g]
  obtain ⟨n, rfl⟩ : ∃ n : Nat, i = (n : Int) := ⟨i.toNat, by omega⟩
  have hl := len_big h
  have e1 : wrap64 (Int.tdiv (n : Int) 64) = ((n / 64 : Nat) : Int) := by
   rw [Int.tdiv_eq_ediv_of_nonneg (by omega), wrapS (by omega) (by omega)]; omega
  have e2 : Int.tmod (n : Int) 64 = ((n % 64 : Nat) : Int) := by
   rw [Int.tmod_eq_emod_of_nonneg (by omega)]; omega
  have hs : n % 64 ≤ 64 := by omega
  have en : val (ofN (val a)) / 2 ^ n % 2 = ((ofN (val a)).getD (n / 64) 0).toNat / 2 ^ (n % 64) % 2 := by
   have := bit_val (ws_ofN (val a)) (n / 64) (n % 64) (by omega)
   rw [Nat.div_add_mod] at this; exact this
  rw [val_ofN] at en
  rw [if_neg g, if_neg g, Int.toNat_natCast, e1, e2, en]
  generalize hq : n / 64 = q at *
  by_cases c : q < (ofN (val a)).length
  ·obtain ⟨p0, p1⟩ := ws_get (ws_ofN (val a)) q
   have ew := asNat p0
   have cc : ((q : Nat) : Int) < ((ofN (val a)).length : Int) := by omega
   rw [if_pos cc, if_pos (Int.natCast_nonneg _), if_pos (Int.natCast_nonneg _), rd_nat]
   generalize ((ofN (val a)).getD q 0).toNat = w at *
   have w1 : w < 18446744073709551616 := Int.ofNat_lt.1 (ew ▸ p1)
   rw [ew, shr_eq _ _ hs, and1 (Nat.lt_of_le_of_lt (Nat.div_le_self _ _) w1)]
   generalize w / 2 ^ (n % 64) % 2 = z
   congr 2
   rw [Bool.eq_iff_iff]; simp; omega
  rw [if_neg (by omega), getD_ge _ _ (by omega)]
  simp
 simp only [if_neg h]
 rw [if_neg (by decide)]
theorem Norm_eq (a : List Int) (k : Nat) (ha : Ws a) (na : a.length < 17592186044000) (hk : a.length < k) : nat_Norm.f k a = some (if val a < big then (ofN (val a), 0) else ([], 3)) := by
 unfold nat_Norm.f
 rw [one_eq a k ha (by omega) (by omega), bind_s]
 by_cases h : val a < big
 ·have hl := len_big h
  have ho := own_eq (ofN (val a)) (by omega)
  simp only [if_pos h]
  rw [if_pos trivial, ho, bind_s]
 simp only [if_neg h]
 rw [if_neg (by decide)]
theorem nOf_eq (w k : Nat) (hw : w < 18446744073709551616) (hk : 1 < k) : nat_Of.f k w = some (ofN w) := by
 unfold nat_Of.f
 have : val [(w : Int)] = w := by simp [val]
 have l1 : (ofN w).length ≤ 1 := (ofN_len w 1).2 hw
 have ho := own_eq (ofN w) (by omega)
 rw [norm_eq 1 _ k rfl (ws_cons.2 ⟨by omega, ws_nil⟩) (by decide) hk, bind_s, this, ho, bind_s]
theorem len_eq (v k : Nat) (hl : (ofN v).length ≤ 1024) (hk : 1 < k) : nat_number_len.f k (ofN v) = some ((bl v : Nat) : Int) := by
 unfold nat_number_len.f
 by_cases h : v = 0
 ·have := ofN_zero_iff.2 h
  rw [if_pos (by omega), h, bl_zero]; rfl
 obtain ⟨m, w, h1, h2, h3, h4, h5⟩ := len_bl h
 have hb := bl_word h4
 have e1 : wrap64 (((ofN v).length : Int) - 1) = (m : Int) := by rw [wrapS (by omega) (by omega)]; omega
 have c0 : ¬ ((ofN v).length : Int) = 0 := by clear e1; omega
 have c1 : (m : Int) < ((ofN v).length : Int) := by clear e1; omega
 have e2 : wrap64 (64 * (m : Int)) = ((64 * m : Nat) : Int) := by clear e1; rw [wrapS (by omega) (by omega)]; omega
 have e3 : wrap64 (((64 * m : Nat) : Int) + ((bl w : Nat) : Int)) = ((64 * m + bl w : Nat) : Int) := by clear e1 e2; rw [wrapS (by omega) (by omega)]; omega
 rw [if_neg c0, e1, if_pos (Int.natCast_nonneg _), if_pos c1, rd_nat, h5, Len64_eq k w h4 hk, bind_s, e2, e3, h2]
theorem Len_eq (a : List Int) (k : Nat) (ha : Ws a) (na : a.length < 17592186044000) (hk : a.length + 1 < k) : nat_Len.f k a = some (if val a < big then (((bl (val a) : Nat) : Int), 0) else (0, 3)) := by
 unfold nat_Len.f
 rw [one_eq a k ha (by omega) (by omega), bind_s]
 by_cases h : val a < big
 ·simp only [if_pos h]
  rw [len_eq _ k (len_big h) (by omega), bind_s]
 simp only [if_neg h]
 have := len_eq 0 k (by rw [ofN_zero]; decide) (by omega)
 rw [ofN_zero, bl_zero] at this
 rw [this, bind_s]; rfl
theorem low_loop (v : Nat) (e : Int) (hl : (ofN v).length ≤ 1024) (s : Nat) : ∀ (i k : Nat), (ofN v).length - i = s → i ≤ (ofN v).length → s < k → val ((ofN v).take i) = 0 →
  (v = 0 → nat_Low.l0 k e (ofN v) (ofN v).length i = some (0, e)) ∧ (∀ t m : Nat, v = 2 ^ t * (2 * m + 1) → nat_Low.l0 k e (ofN v) (ofN v).length i = some ((t : Int), e)) := by
 induction s with
 | zero =>
  intro i k hs hi hk hz
  obtain ⟨k, rfl⟩ : ∃ z, k = z + 1 := ⟨k - 1, by omega⟩
  obtain rfl : i = (ofN v).length := by omega
  rw [val_take_ge _ _ (Nat.le_refl _), val_ofN] at hz
  have g : nat_Low.l0 (k + 1) e (ofN v) (ofN v).length ((ofN v).length : Nat) = some (0, e) := by
   simp only [nat_Low.l0]; rw [if_neg (by omega)]
  refine ⟨fun _ => g, fun t m ht => ?_⟩
  have : 0 < 2 ^ t * (2 * m + 1) := Nat.mul_pos (Nat.pow_pos (by decide)) (by omega)
  omega
 | succ s ih =>
  intro i k hs hi hk hz
  obtain ⟨k, rfl⟩ : ∃ z, k = z + 1 := ⟨k - 1, by omega⟩
  have i1 : (ofN v).length - (i + 1) = s := by omega
  have i2 : i + 1 ≤ (ofN v).length := by omega
  have i3 : s < k := by omega
  have g1 : (i : Int) < ((ofN v).length : Int) := by omega
  have b3 : i < 4611686018427387904 := by omega
  have i5 : i < (ofN v).length := by omega
  obtain ⟨p0, p1⟩ := ws_get (ws_ofN v) i
  have ew := asNat p0
  have ts := val_take_succ (ofN v) i i5
  have td := val_take_drop (ofN v) i (Nat.le_of_lt i5)
  have vd := val_drop (ofN v) i i5
  rw [hz] at ts td
  rw [val_ofN, vd] at td
  simp only [nat_Low.l0]
  rw [if_pos g1, if_pos (Int.natCast_nonneg _), if_pos g1, rd_nat]
  generalize hwn : ((ofN v).getD i 0).toNat = w at *
  by_cases h : w = 0
  ·have := ih (i + 1) k i1 i2 i3 (by rw [ts, h]; simp)
   rw [if_pos (by rw [ew, h]; rfl), wrap_succ b3]
   exact this
  have w1 : w < 18446744073709551616 := Int.ofNat_lt.1 (ew ▸ p1)
  obtain ⟨s', c, hc⟩ := low_form w h
  obtain ⟨tz, ts64⟩ := Trail_eq hc w1
  have e2 : wrap64 (64 * (i : Int)) = ((64 * i : Nat) : Int) := by rw [wrapS (by omega) (by omega)]; omega
  have e3 : wrap64 (((64 * i : Nat) : Int) + (s' : Int)) = ((64 * i + s' : Nat) : Int) := by clear e2; rw [wrapS (by omega) (by omega)]; omega
  have hw0 : ¬ (w : Int) = 0 := by clear e2 e3; omega
  rw [ew, if_neg hw0, tz, bind_s, e2, e3]
  clear e2 e3
  have hv : v = 2 ^ (64 * i + s') * (2 * (c + 2 ^ (63 - s') * val ((ofN v).drop (i + 1))) + 1) := by
   have eB : (18446744073709551616 : Nat) = 2 ^ s' * (2 * 2 ^ (63 - s')) := by
    have := pow_split (show s' ≤ 64 by omega)
    have e3 : 64 - s' = (63 - s') + 1 := by omega
    rw [e3, Nat.pow_succ, Nat.mul_comm _ 2] at this
    exact this.symm
   have eP : (18446744073709551616 : Nat) ^ i = 2 ^ (64 * i) := by rw [Nat.pow_mul]
   generalize val ((ofN v).drop (i + 1)) = R at *
   have e5 : w + 18446744073709551616 * R = 2 ^ s' * (2 * (c + 2 ^ (63 - s') * R) + 1) := by
    rw [eB, hc, Nat.mul_assoc, ← Nat.mul_add, Nat.mul_add 2 c, Nat.mul_assoc 2]
    congr 1; omega
   rw [Nat.zero_add, e5, eP, ← Nat.mul_assoc, ← Nat.pow_add] at td
   exact td
  refine ⟨fun z => ?_, fun t m ht => ?_⟩
  ·have : 0 < 2 ^ (64 * i + s') * (2 * (c + 2 ^ (63 - s') * val ((ofN v).drop (i + 1))) + 1) := Nat.mul_pos (Nat.pow_pos (by decide)) (by omega)
   omega
  have := low_unique (ht.symm.trans hv)
  rw [this]
theorem big_pos : 0 < big := by
 have h : ∀ m, 0 < 18446744073709551616 ^ m := pow_pos
 unfold big
 exact h 1024
theorem Low_eq (a : List Int) (k : Nat) (ha : Ws a) (na : a.length < 17592186044000) (hk : a.length + 2000 < k) :
  (¬ val a < big → nat_Low.f k a = some (0, 3)) ∧ (val a = 0 → nat_Low.f k a = some (0, 0)) ∧ (val a < big → ∀ t m : Nat, val a = 2 ^ t * (2 * m + 1) → nat_Low.f k a = some ((t : Int), 0)) := by
 unfold nat_Low.f
 rw [one_eq a k ha (by omega) (by omega), bind_s]
 refine ⟨fun h => ?_, fun h => ?_, fun h t m ht => ?_⟩
 ·simp only [if_neg h]
  have := (low_loop 0 3 (by rw [ofN_zero]; decide) _ 0 k rfl (Nat.zero_le _) (by rw [ofN_zero]; simp; omega) (by simp [val])).1 rfl
  rw [ofN_zero] at this
  exact this
 ·have hb : val a < big := by rw [h]; exact big_pos
  simp only [if_pos hb]
  have := (low_loop 0 0 (by rw [ofN_zero]; decide) _ 0 k rfl (Nat.zero_le _) (by rw [ofN_zero]; simp; omega) (by simp [val])).1 rfl
  rw [h]
  exact this
 simp only [if_pos h]
 have hl := len_big h
 exact (low_loop (val a) 0 hl _ 0 k rfl (Nat.zero_le _) (by omega) (by simp [val])).2 t m ht
theorem low_lt {v t m : Nat} (h : v = 2 ^ t * (2 * m + 1)) : t < bl v := by
 have := bl_lt v
 refine (Nat.pow_lt_pow_iff_right (a := 2) (by decide)).1 (Nat.lt_of_le_of_lt ?_ this)
 rw [h]; exact Nat.le_mul_of_pos_right _ (by omega)
end Go.Proofs.YtjnfipkbgmdpaaaDoor.Nf

namespace Go.Proofs.YtjnfipkbgmdpaaaDoor.Nf
open Go.RowKit Go.Proofs.YtjnfipkbgmdpaaaDoor.PAll Go.Proofs.YtjnfipkbgmdpaaaDoorW.PrintWords Go.Proofs.YtjnfipkbgmdpaaaDoorW.PrintLast Go.Proofs.YtjnfipkbgmdpaaaDoorW.PrintMore Go.Proofs.YtjnfipkbgmdpaaaDoor.Nm
set_option linter.unusedVariables false
set_option linter.unusedSimpArgs false
theorem ofN_one : ofN 1 = [1] := by
 rw [ofN_pos (by decide)]
 have : (1 : Nat) / 18446744073709551616 = 0 := by decide
 rw [this, ofN_zero]; rfl
theorem len_mul {x y m n K : Nat} (hx : (ofN x).length ≤ m) (hy : (ofN y).length ≤ n) (hK : m + n = K) : (ofN (x * y)).length ≤ K := by
 subst hK
 rw [ofN_len] at hx hy ⊢
 rw [Nat.pow_add]; exact Nat.mul_lt_mul_of_lt_of_le hx (Nat.le_of_lt hy) (pow_pos n)
end Go.Proofs.YtjnfipkbgmdpaaaDoor.Nf

namespace Go.Proofs.YtjnfipkbgmdpaaaDoor.Nf
open Go.RowKit Go.Proofs.YtjnfipkbgmdpaaaDoor.PAll Go.Proofs.YtjnfipkbgmdpaaaDoorW.PrintWords Go.Proofs.YtjnfipkbgmdpaaaDoorW.PrintLast Go.Proofs.YtjnfipkbgmdpaaaDoorW.PrintMore Go.Proofs.YtjnfipkbgmdpaaaDoor.Nm
set_option linter.unusedVariables false
set_option linter.unusedSimpArgs false
theorem sq_nonneg (x : Int) : 0 ≤ x * x := by
 rcases Int.le_total 0 x with h | h
 ·exact Int.mul_nonneg h h
 have := Int.mul_nonneg (Int.neg_nonneg.2 h) (Int.neg_nonneg.2 h); rwa [Int.neg_mul_neg] at this
theorem mean2 (x d r : Int) (h : 2 * r = x + d) : d * x ≤ r * r := by
 have q := sq_nonneg (x - d)
 have e : (x - d) * (x - d) = 4 * (r * r) - 4 * (d * x) := by grind
 omega
theorem mean3 (x d r : Int) (h0 : 0 ≤ x) (h1 : 0 ≤ r) (h : 3 * r = 2 * x + d) : d * (x * x) ≤ r * r * r := by
 have q := Int.mul_nonneg (sq_nonneg (x - r)) (show 0 ≤ r + 2 * x by omega)
 have e : (x - r) * (x - r) * (r + 2 * x) = r * r * r - d * (x * x) := by grind
 omega
theorem newton2 {a x r : Nat} (hx : 0 < x) (hr : r * r ≤ a) : 2 * r ≤ a / x + x := by
 by_cases h : 2 * r ≤ x
 ·exact Nat.le_trans h (Nat.le_add_left _ _)
 obtain ⟨d, hd⟩ : ∃ d, 2 * r = x + d := ⟨2 * r - x, by omega⟩
 have := mean2 x d r (by omega)
 have h2 : d * x ≤ a := by
  have h3 : ((d * x : Nat) : Int) ≤ ((r * r : Nat) : Int) := by simpa using this
  omega
 have := (Nat.le_div_iff_mul_le hx).2 h2
 omega
theorem newton3 {a x r : Nat} (hx : 0 < x) (hr : r * r * r ≤ a) : 3 * r ≤ a / (x * x) + 2 * x := by
 by_cases h : 3 * r ≤ 2 * x
 ·exact Nat.le_trans h (Nat.le_add_left _ _)
 obtain ⟨d, hd⟩ : ∃ d, 3 * r = 2 * x + d := ⟨3 * r - 2 * x, by omega⟩
 have := mean3 x d r (by omega) (by omega) (by omega)
 have h2 : d * (x * x) ≤ a := by
  have h3 : ((d * (x * x) : Nat) : Int) ≤ ((r * r * r : Nat) : Int) := by simpa using this
  omega
 have := (Nat.le_div_iff_mul_le (Nat.mul_pos hx hx)).2 h2
 omega
theorem mulN {x y : Nat} (k : Nat) (hx : (ofN x).length ≤ 1024) (hy : (ofN y).length ≤ 1024) (hk : 2000000 < k) : nat_number_mul.f k (ofN x) (ofN y) = some (ofN (x * y)) := by
 have h1 : (ofN x).length * ((ofN y).length + 2) ≤ 1024 * 1026 := Nat.mul_le_mul hx (by omega)
 have h := nmul_eq (ofN x) (ofN y) k (ws_ofN x) (ws_ofN y) (by omega) (by omega)
 rw [val_ofN, val_ofN] at h; exact h
theorem mul1 {x : Nat} (k : Nat) (hx : (ofN x).length ≤ 1024) (hk : 2000000 < k) : nat_number_mul.f k [1] (ofN x) = some (ofN x) := by
 have h := mulN (x := 1) (y := x) k (by rw [ofN_one]; decide) hx hk
 rw [ofN_one, Nat.one_mul] at h; exact h
theorem addN {x y : Nat} (k : Nat) (hx : (ofN x).length ≤ 2100) (hy : (ofN y).length ≤ 2100) (hk : 2000000 < k) : nat_number_add.f k (ofN x) (ofN y) = some (ofN (x + y)) := by
 have h := add_eq (ofN x) (ofN y) (ws_ofN x) (ws_ofN y) (by omega) (by omega) k (by omega)
 rw [val_ofN, val_ofN] at h; exact h
theorem shortN {x : Nat} (k d : Nat) (hx : (ofN x).length ≤ 2100) (h0 : 0 < d) (hd : d < 10) (hk : 2000000 < k) : nat_number_short.f k (ofN x) (d : Int) = some (ofN (x / d), ((x % d : Nat) : Int)) := by
 have h := short_eq (ofN x) (ws_ofN x) d k h0 (by omega) (by omega) (by omega)
 rw [val_ofN] at h; exact h
theorem cmpI_ge {a b : Nat} : cmpI a b ≥ 0 ↔ b ≤ a := by
 unfold cmpI
 by_cases h : a < b
 ·rw [if_pos h]; omega
 rw [if_neg h]
 by_cases g : a = b
 ·rw [if_pos g]; omega
 rw [if_neg g]; omega
theorem len_add {x y m : Nat} (hx : (ofN x).length ≤ m) (hy : (ofN y).length ≤ m) : (ofN (x + y)).length ≤ m + 1 := by
 rw [ofN_len] at hx hy ⊢
 rw [Nat.pow_succ]; omega
theorem root_l0 (k : Nat) (x0 : List Int) (x1 : Int) (x5 : List Int) : nat_number_root.l0 (k + 1) x0 x1 x5 = nat_number_root.l1 k x0 x1 x5 (([1] : List Int)) (wrap64 (x1 - 1)) 0 := by simp only [nat_number_root.l0]
theorem root_l1 (k : Nat) (x0 : List Int) (x1 : Int) (x5 x6 : List Int) (x24 x25 : Int) : nat_number_root.l1 (k + 1) x0 x1 x5 x6 x24 x25 = if x25 < x24 then ((nat_number_mul.f k x6 x5).bind fun t484 => (nat_number_root.l1 k x0 x1 x5 t484 x24 (wrap64 (x25 + 1)))) else ((nat_number_div.f k x0 x6).bind fun bt487 => (nat_number_root.l2 k x0 x1 x5 bt487.1 (wrap64 (x1 - 1)) 0)) := by simp only [nat_number_root.l1]
theorem root_l2 (k : Nat) (x0 : List Int) (x1 : Int) (x5 x9 : List Int) (x39 x40 : Int) : nat_number_root.l2 (k + 1) x0 x1 x5 x9 x39 x40 = if x40 < x39 then ((nat_number_add.f k x9 x5).bind fun t493 => (nat_number_root.l2 k x0 x1 x5 t493 x39 (wrap64 (x40 + 1)))) else ((nat_number_short.f k x9 (IntKind.u64.wrap (x1))).bind fun bt496 => ((nat_number_cmp.f k bt496.1 x5).bind fun t500 => (if t500 ≥ 0 then (some x5) else (nat_number_root.l0 k x0 x1 bt496.1)))) := by simp only [nat_number_root.l2]
theorem rooted_l0 (k : Nat) (x7 x9 x10 : List Int) (x23 x24 : Int) : nat_rooted.l0 (k + 1) x7 x9 x10 x23 x24 = if x24 < x23 then ((nat_number_mul.f k x10 x9).bind fun t521 => (nat_rooted.l0 k x7 x9 t521 x23 (wrap64 (x24 + 1)))) else ((nat_number_own.f x9).bind fun t524 => ((nat_number_sub.f k x7 x10).bind fun t527 => ((nat_number_own.f t527).bind fun t530 => (some (t524, t530, 0))))) := by simp only [nat_rooted.l0]
theorem root2_step (a x k : Nat) (ha : (ofN a).length ≤ 1024) (hx0 : 0 < x) (hx : (ofN x).length ≤ 1024) (hk : 3000000 < k) :
  nat_number_root.l0 (k + 5) (ofN a) 2 (ofN x) = if x ≤ (a / x + x) / 2 then some (ofN x) else nat_number_root.l0 k (ofN a) 2 (ofN ((a / x + x) / 2)) := by
 have w1 : wrap64 ((2 : Int) - 1) = 1 := by rw [wrapS (by decide) (by decide)]; rfl
 have w2 : wrap64 ((0 : Int) + 1) = 1 := by rw [wrapS (by decide) (by decide)]; rfl
 have w3 : IntKind.u64.wrap (2 : Int) = ((2 : Nat) : Int) := by decide
 have lq : (ofN (a / x)).length ≤ 1024 := Nat.le_trans (ofN_len_le (Nat.div_le_self _ _)) ha
 have ls : (ofN (a / x + x)).length ≤ 1025 := len_add lq hx
 have ln : (ofN ((a / x + x) / 2)).length ≤ 1025 := Nat.le_trans (ofN_len_le (Nat.div_le_self _ _)) ls
 rw [root_l0]
 rw [root_l1]
 rw [w1, w2, if_pos (by decide), mul1 (k + 3) hx (by omega), bind_s]
 rw [root_l1]
 rw [if_neg (by decide), div_eq a x (k + 2) (by omega) ha hx (by omega), bind_s]
 rw [root_l2]
 rw [w1, w2, if_pos (by decide), addN (k + 1) (by omega) (by omega) (by omega), bind_s]
 rw [root_l2]
 rw [if_neg (by decide), w3, shortN k 2 (by omega) (by decide) (by decide) (by omega), bind_s]
 simp only []
 rw [cmp_eq _ _ k (by omega) (by omega), bind_s]
 by_cases h : x ≤ (a / x + x) / 2
 ·rw [if_pos h, if_pos (cmpI_ge.2 h)]
 rw [if_neg h, if_neg (fun q => h (cmpI_ge.1 q))]
theorem root3_step (a x k : Nat) (ha : (ofN a).length ≤ 1024) (hx0 : 0 < x) (hx : (ofN x).length ≤ 512) (hk : 3000000 < k) :
  nat_number_root.l0 (k + 7) (ofN a) 3 (ofN x) = if x ≤ (a / (x * x) + x + x) / 3 then some (ofN x) else nat_number_root.l0 k (ofN a) 3 (ofN ((a / (x * x) + x + x) / 3)) := by
 have w1 : wrap64 ((3 : Int) - 1) = 2 := by rw [wrapS (by decide) (by decide)]; rfl
 have w2 : wrap64 ((0 : Int) + 1) = 1 := by rw [wrapS (by decide) (by decide)]; rfl
 have w4 : wrap64 ((1 : Int) + 1) = 2 := by rw [wrapS (by decide) (by decide)]; rfl
 have w3 : IntKind.u64.wrap (3 : Int) = ((3 : Nat) : Int) := by decide
 have lx : (ofN (x * x)).length ≤ 1024 := len_mul hx hx (by omega)
 have px : 0 < x * x := Nat.mul_pos hx0 hx0
 have lq : (ofN (a / (x * x))).length ≤ 1024 := Nat.le_trans (ofN_len_le (Nat.div_le_self _ _)) ha
 have ls : (ofN (a / (x * x) + x)).length ≤ 1025 := len_add lq (by omega)
 have ls2 : (ofN (a / (x * x) + x + x)).length ≤ 1026 := len_add ls (by omega)
 have ln : (ofN ((a / (x * x) + x + x) / 3)).length ≤ 1026 := Nat.le_trans (ofN_len_le (Nat.div_le_self _ _)) ls2
 rw [root_l0]
 rw [root_l1]
 rw [w1, w2, if_pos (by decide), mul1 (k + 5) (by omega) (by omega), bind_s]
 rw [root_l1]
 rw [w4, if_pos (by decide), mulN (k + 4) (by omega) (by omega) (by omega), bind_s]
 rw [root_l1]
 rw [if_neg (by decide), div_eq a (x * x) (k + 3) (by omega) ha lx (by omega), bind_s]
 rw [root_l2]
 rw [w1, w2, if_pos (by decide), addN (k + 2) (by omega) (by omega) (by omega), bind_s]
 rw [root_l2]
 rw [w4, if_pos (by decide), addN (k + 1) (by omega) (by omega) (by omega), bind_s]
 rw [root_l2]
 rw [if_neg (by decide), w3, shortN k 3 (by omega) (by decide) (by decide) (by omega), bind_s]
 simp only []
 rw [cmp_eq _ _ k (by omega) (by omega), bind_s]
 by_cases h : x ≤ (a / (x * x) + x + x) / 3
 ·rw [if_pos h, if_pos (cmpI_ge.2 h)]
 rw [if_neg h, if_neg (fun q => h (cmpI_ge.1 q))]
def IsR (P : Nat → Nat) (a s : Nat) : Prop := P s ≤ a ∧ ∀ r, P r ≤ a → r ≤ s
theorem root2_loop (a : Nat) (ha0 : 0 < a) (ha : (ofN a).length ≤ 1024) (x : Nat) : ∀ k, 0 < x → (ofN x).length ≤ 1024 → (∀ r, r * r ≤ a → r ≤ x) → 5 * x + 4000000 < k →
  ∃ s, nat_number_root.l0 k (ofN a) 2 (ofN x) = some (ofN s) ∧ IsR (fun r => r * r) a s ∧ s ≤ x := by
 induction x using Nat.strongRecOn with
 | _ x ih =>
  intro k hx hl hr hk
  obtain ⟨k, rfl⟩ : ∃ m, k = m + 5 := ⟨k - 5, by omega⟩
  have st := root2_step a x k ha hx hl (by omega)
  by_cases h : x ≤ (a / x + x) / 2
  ·rw [if_pos h] at st
   refine ⟨x, st, ⟨?_, hr⟩, Nat.le_refl _⟩
   have : x ≤ a / x := by omega
   exact (Nat.le_div_iff_mul_le hx).1 this
  rw [if_neg h] at st
  have hr2 : ∀ r, r * r ≤ a → r ≤ (a / x + x) / 2 := fun r e => by have := newton2 hx e; omega
  have h1 := hr2 1 (by omega)
  obtain ⟨s, e, i, l⟩ := ih ((a / x + x) / 2) (by omega) k (by omega) (Nat.le_trans (ofN_len_le (by omega)) hl) hr2 (by omega)
  exact ⟨s, st.trans e, i, by omega⟩
theorem root3_loop (a : Nat) (ha0 : 0 < a) (ha : (ofN a).length ≤ 1024) (x : Nat) : ∀ k, 0 < x → (ofN x).length ≤ 512 → (∀ r, r * r * r ≤ a → r ≤ x) → 7 * x + 4000000 < k →
  ∃ s, nat_number_root.l0 k (ofN a) 3 (ofN x) = some (ofN s) ∧ IsR (fun r => r * r * r) a s ∧ s ≤ x := by
 induction x using Nat.strongRecOn with
 | _ x ih =>
  intro k hx hl hr hk
  obtain ⟨k, rfl⟩ : ∃ m, k = m + 7 := ⟨k - 7, by omega⟩
  have st := root3_step a x k ha hx hl (by omega)
  by_cases h : x ≤ (a / (x * x) + x + x) / 3
  ·rw [if_pos h] at st
   refine ⟨x, st, ⟨?_, hr⟩, Nat.le_refl _⟩
   have : x ≤ a / (x * x) := by omega
   have := (Nat.le_div_iff_mul_le (Nat.mul_pos hx hx)).1 this
   rw [← Nat.mul_assoc] at this; exact this
  rw [if_neg h] at st
  have hr2 : ∀ r, r * r * r ≤ a → r ≤ (a / (x * x) + x + x) / 3 := fun r e => by have := newton3 hx e; omega
  have h1 := hr2 1 (by omega)
  obtain ⟨s, e, i, l⟩ := ih ((a / (x * x) + x + x) / 3) (by omega) k (by omega) (Nat.le_trans (ofN_len_le (by omega)) hl) hr2 (by omega)
  exact ⟨s, st.trans e, i, by omega⟩
theorem shl1 (m k : Nat) (hm : m ≤ 65536) (hk : 3000000 < k) : nat_number_shl.f k [1] (m : Int) = some (ofN (2 ^ m)) := by
 have h := nshl_eq [1] m k (ws_cons.2 ⟨by omega, ws_nil⟩) (by omega) (by simp) (by simp; omega) (by simp; omega)
 have v : val [1] = 1 := rfl
 rw [v, Nat.one_mul] at h; exact h
theorem len_pow2 {m n : Nat} (h : m < 64 * n) : (ofN (2 ^ m)).length ≤ n := by
 rw [ofN_len]
 have e : (18446744073709551616 : Nat) ^ n = 2 ^ (64 * n) := by rw [Nat.pow_mul]
 rw [e]; exact Nat.pow_lt_pow_right (by decide) h
theorem above2 {a m : Nat} (h : bl a ≤ 2 * m) : ∀ r, r * r ≤ a → r ≤ 2 ^ m := fun r e => by
 apply Classical.byContradiction; intro g
 have h1 : 2 ^ m * 2 ^ m < r * r := Nat.mul_lt_mul_of_lt_of_le (by omega) (by omega) (Nat.lt_of_le_of_lt (Nat.zero_le (2 ^ m)) (by omega))
 rw [← Nat.pow_add] at h1
 have h2 := bl_lt a
 have h3 : 2 ^ bl a ≤ 2 ^ (m + m) := Nat.pow_le_pow_right (by decide) (by omega)
 omega
theorem above3 {a m : Nat} (h : bl a ≤ 3 * m) : ∀ r, r * r * r ≤ a → r ≤ 2 ^ m := fun r e => by
 apply Classical.byContradiction; intro g
 have h0 : 2 ^ m * 2 ^ m ≤ r * r := Nat.mul_le_mul (by omega) (by omega)
 have hp : 0 < 2 ^ m := Nat.pow_pos (by decide)
 have h1 : 2 ^ m * 2 ^ m * 2 ^ m ≤ r * r * 2 ^ m := Nat.mul_le_mul h0 (Nat.le_refl _)
 have h1' : r * r * 2 ^ m < r * r * r := Nat.mul_lt_mul_of_pos_left (by omega) (Nat.mul_pos (by omega) (by omega))
 rw [← Nat.pow_add, ← Nat.pow_add] at h1
 have h2 := bl_lt a
 have h3 : 2 ^ bl a ≤ 2 ^ (m + m + m) := Nat.pow_le_pow_right (by decide) (by omega)
 omega
theorem root2_eq (a k : Nat) (ha : (ofN a).length ≤ 1024) (hb : bl a ≤ 65536) (hk : 5 * 2 ^ ((bl a + 1) / 2) + 5000000 < k) :
  ∃ s, nat_number_root.f k (ofN a) 2 = some (ofN s) ∧ IsR (fun r => r * r) a s := by
 unfold nat_number_root.f
 by_cases h : a = 0
 ·subst h
  refine ⟨0, ?_, by simp, fun r hr => ?_⟩
  ·rw [ofN_zero]; rfl
  have : r * r = 0 := by simpa using hr
  have := Nat.mul_eq_zero.1 this; omega
 have hl : ¬ ((ofN a).length : Int) = 0 := by have := ofN_zero_iff (v := a); omega
 obtain ⟨m, hm⟩ : ∃ m, m = (bl a + 1) / 2 := ⟨_, rfl⟩
 rw [← hm] at hk
 have e1 : wrap64 (Int.tdiv (wrap64 (wrap64 (((bl a : Nat) : Int) + 2) - 1)) 2) = (m : Int) := by
  rw [wrapS (x := ((bl a : Nat) : Int) + 2) (by omega) (by omega), wrapS (x := ((bl a : Nat) : Int) + 2 - 1) (by omega) (by omega)]
  have : ((bl a : Nat) : Int) + 2 - 1 = ((bl a + 1 : Nat) : Int) := by omega
  rw [this, show (2 : Int) = ((2 : Nat) : Int) from rfl, tdivN, ← hm]
  exact wrapS (by omega) (by omega)
 rw [if_neg hl, len_eq a k ha (by omega), bind_s, if_neg (by decide), e1, shl1 m k (by omega) (by omega), bind_s]
 obtain ⟨s, e, i, _⟩ := root2_loop a (by omega) ha (2 ^ m) k (Nat.pow_pos (by decide)) (len_pow2 (by omega)) (above2 (by omega)) (by omega)
 exact ⟨s, e, i⟩
theorem root3_eq (a k : Nat) (ha : (ofN a).length ≤ 1024) (hb : bl a ≤ 65536) (hk : 7 * 2 ^ ((bl a + 2) / 3) + 5000000 < k) :
  ∃ s, nat_number_root.f k (ofN a) 3 = some (ofN s) ∧ IsR (fun r => r * r * r) a s ∧ (ofN s).length ≤ 512 := by
 unfold nat_number_root.f
 by_cases h : a = 0
 ·subst h
  refine ⟨0, ?_, ⟨by simp, fun r hr => ?_⟩, by rw [ofN_zero]; decide⟩
  ·rw [ofN_zero]; rfl
  have h1 : r * r * r = 0 := by simpa using hr
  have h2 := Nat.mul_eq_zero.1 h1
  rcases h2 with h2 | h2
  ·have := Nat.mul_eq_zero.1 h2; omega
  omega
 have hl : ¬ ((ofN a).length : Int) = 0 := by have := ofN_zero_iff (v := a); omega
 obtain ⟨m, hm⟩ : ∃ m, m = (bl a + 2) / 3 := ⟨_, rfl⟩
 rw [← hm] at hk
 have e1 : wrap64 (Int.tdiv (wrap64 (wrap64 (((bl a : Nat) : Int) + 3) - 1)) 3) = (m : Int) := by
  rw [wrapS (x := ((bl a : Nat) : Int) + 3) (by omega) (by omega), wrapS (x := ((bl a : Nat) : Int) + 3 - 1) (by omega) (by omega)]
  have : ((bl a : Nat) : Int) + 3 - 1 = ((bl a + 2 : Nat) : Int) := by omega
  rw [this, show (3 : Int) = ((3 : Nat) : Int) from rfl, tdivN, ← hm]
  exact wrapS (by omega) (by omega)
 have l2 : (ofN (2 ^ m)).length ≤ 512 := len_pow2 (by omega)
 rw [if_neg hl, len_eq a k ha (by omega), bind_s, if_neg (by decide), e1, shl1 m k (by omega) (by omega), bind_s]
 obtain ⟨s, e, i, le⟩ := root3_loop a (by omega) ha (2 ^ m) k (Nat.pow_pos (by decide)) l2 (above3 (by omega)) (by omega)
 exact ⟨s, e, i, Nat.le_trans (ofN_len_le le) l2⟩
theorem sub_len {a b : Nat} (h : (ofN a).length ≤ 1024) : (ofN (a - b)).length ≤ 1024 := Nat.le_trans (ofN_len_le (Nat.sub_le _ _)) h
theorem Sqrt_eq (a : List Int) (k : Nat) (ha : Ws a) (na : a.length < 17592186044000) (hk : 5 * 2 ^ ((bl (val a) + 1) / 2) + a.length + 6000000 < k) :
  (val a < big → ∃ s, nat_Sqrt.f k a = some (ofN s, ofN (val a - s * s), 0) ∧ IsR (fun r => r * r) (val a) s) ∧ (¬ val a < big → nat_Sqrt.f k a = some ([], [], 3)) := by
 unfold nat_Sqrt.f nat_rooted.f
 rw [one_eq a k ha (by omega) (by omega), bind_s]
 refine ⟨fun h => ?_, fun h => ?_⟩
 ·have la := len_big h
  obtain ⟨s, e, i⟩ := root2_eq (val a) k la (big_lt_iff.1 h) (by omega)
  have hs : s * s ≤ val a := i.1
  have hs1 : s ≤ val a := by
   rcases Nat.eq_zero_or_pos s with z | z
   ·omega
   exact Nat.le_trans (Nat.le_mul_of_pos_left s z) hs
  have ls : (ofN s).length ≤ 1024 := Nat.le_trans (ofN_len_le hs1) la
  have ls2 : (ofN (s * s)).length ≤ 1024 := Nat.le_trans (ofN_len_le hs) la
  refine ⟨s, ?_, i⟩
  obtain ⟨k, rfl⟩ : ∃ m, k = m + 3 := ⟨k - 3, by omega⟩
  have w2 : wrap64 ((0 : Int) + 1) = 1 := by rw [wrapS (by decide) (by decide)]; rfl
  have w4 : wrap64 ((1 : Int) + 1) = 2 := by rw [wrapS (by decide) (by decide)]; rfl
  simp only [if_pos h]
  rw [if_pos trivial, e, bind_s]
  rw [rooted_l0]
  rw [w2, if_pos (by decide), mul1 (k + 2) ls (by omega), bind_s]
  rw [rooted_l0]
  rw [w4, if_pos (by decide), mulN (k + 1) ls ls (by omega), bind_s]
  rw [rooted_l0]
  have o1 := own_eq (ofN s) (by omega)
  have l3 := sub_len (b := s * s) la
  have o2 := own_eq (ofN (val a - s * s)) (by omega)
  rw [if_neg (by decide), o1, bind_s, sub_eq (val a) (s * s) hs k (by omega) (by omega), bind_s, o2, bind_s, bind_s]
 simp only [if_neg h]
 rw [if_neg (by decide), bind_s]
theorem Cbrt_eq (a : List Int) (k : Nat) (ha : Ws a) (na : a.length < 17592186044000) (hk : 7 * 2 ^ ((bl (val a) + 2) / 3) + a.length + 6000000 < k) :
  (val a < big → ∃ s, nat_Cbrt.f k a = some (ofN s, ofN (val a - s * s * s), 0) ∧ IsR (fun r => r * r * r) (val a) s ∧ (ofN s).length ≤ 512) ∧ (¬ val a < big → nat_Cbrt.f k a = some ([], [], 3)) := by
 unfold nat_Cbrt.f nat_rooted.f
 rw [one_eq a k ha (by omega) (by omega), bind_s]
 refine ⟨fun h => ?_, fun h => ?_⟩
 ·have la := len_big h
  obtain ⟨s, e, i, ls⟩ := root3_eq (val a) k la (big_lt_iff.1 h) (by omega)
  have hs : s * s * s ≤ val a := i.1
  have ls2 : (ofN (s * s)).length ≤ 1024 := len_mul ls ls (by omega)
  have ls3 : (ofN (s * s * s)).length ≤ 1024 := Nat.le_trans (ofN_len_le hs) la
  refine ⟨s, ?_, i, ls⟩
  obtain ⟨k, rfl⟩ : ∃ m, k = m + 4 := ⟨k - 4, by omega⟩
  have w2 : wrap64 ((0 : Int) + 1) = 1 := by rw [wrapS (by decide) (by decide)]; rfl
  have w4 : wrap64 ((1 : Int) + 1) = 2 := by rw [wrapS (by decide) (by decide)]; rfl
  have w5 : wrap64 ((2 : Int) + 1) = 3 := by rw [wrapS (by decide) (by decide)]; rfl
  simp only [if_pos h]
  rw [if_pos trivial, e, bind_s]
  rw [rooted_l0]
  rw [w2, if_pos (by decide), mul1 (k + 3) (by omega) (by omega), bind_s]
  rw [rooted_l0]
  rw [w4, if_pos (by decide), mulN (k + 2) (by omega) (by omega) (by omega), bind_s]
  rw [rooted_l0]
  rw [w5, if_pos (by decide), mulN (k + 1) ls2 (by omega) (by omega), bind_s]
  rw [rooted_l0]
  have o1 := own_eq (ofN s) (by omega)
  have l3 := sub_len (b := s * s * s) la
  have o2 := own_eq (ofN (val a - s * s * s)) (by omega)
  rw [if_neg (by decide), o1, bind_s, sub_eq (val a) (s * s * s) hs k (by omega) (by omega), bind_s, o2, bind_s, bind_s]
 simp only [if_neg h]
 rw [if_neg (by decide), bind_s]
end Go.Proofs.YtjnfipkbgmdpaaaDoor.Nf

namespace Go.Proofs.YtjnfipkbgmdpaaaDoor.Nf
open Go.RowKit Go.Proofs.YtjnfipkbgmdpaaaDoor.PAll Go.Proofs.YtjnfipkbgmdpaaaDoorW.PrintWords Go.Proofs.YtjnfipkbgmdpaaaDoorW.PrintLast Go.Proofs.YtjnfipkbgmdpaaaDoorW.PrintMore Go.Proofs.YtjnfipkbgmdpaaaDoor.Nm
set_option linter.unusedVariables false
set_option linter.unusedSimpArgs false
theorem trim_loop (l : List Int) (hw : Ws l) (hn : l.length < 4611686018427387904) (n : Nat) : ∀ k, n ≤ l.length → n < k → limbs_Trim.l0 k l n = some (ofN (val (l.take n))) := by
 induction n with
 | zero =>
  intro k hj hk
  obtain ⟨k, rfl⟩ : ∃ m, k = m + 1 := ⟨k - 1, by omega⟩
  simp only [limbs_Trim.l0]
  rw [if_neg (by omega), if_pos (by omega), if_pos (by omega)]
  simp [val, ofN_zero]
 | succ n ih =>
  intro k hj hk
  obtain ⟨k, rfl⟩ : ∃ m, k = m + 1 := ⟨k - 1, by omega⟩
  simp only [limbs_Trim.l0]
  have e : wrap64 (((n + 1 : Nat) : Int) - 1) = (n : Int) := by rw [wrapS (by omega) (by omega)]; omega
  rw [e, if_pos (by omega), if_pos (by omega), if_pos (by omega), rd_nat]
  by_cases h : l.getD n 0 = 0
  ·rw [if_pos h, ih k (by omega) (by omega), val_take_succ l n (by omega), h]; simp
  rw [if_neg h, if_pos (by omega), if_pos (by omega), Int.toNat_natCast, ← ofN_take hw (by omega) h]
theorem trim_eq (l : List Int) (k : Nat) (hw : Ws l) (hn : l.length < 4611686018427387904) (hk : l.length < k) : limbs_Trim.f k l = some (ofN (val l)) := by
 unfold limbs_Trim.f
 rw [trim_loop l hw hn _ k (Nat.le_refl _) hk, val_take_ge _ _ (Nat.le_refl _)]
theorem lcmp_loop (x y : List Int) (hx : Ws x) (hy : Ws y) (e : x.length = y.length) (hn : x.length < 4611686018427387904) (j : Nat) : ∀ (k : Nat), j ≤ x.length → j < k →
  limbs_Cmp.l0 k x y ((j : Int) - 1) = some (cmpI (val (x.take j)) (val (y.take j))) := by
 induction j with
 | zero =>
  intro k hj hk
  obtain ⟨k, rfl⟩ : ∃ m, k = m + 1 := ⟨k - 1, by omega⟩
  simp only [limbs_Cmp.l0]
  rw [if_neg (by omega)]
  simp [val, cmpI]
 | succ j ih =>
  intro k hj hk
  obtain ⟨k, rfl⟩ : ∃ m, k = m + 1 := ⟨k - 1, by omega⟩
  have e0 : ((j + 1 : Nat) : Int) - 1 = (j : Int) := by omega
  have e1 : wrap64 ((j : Int) - 1) = (j : Int) - 1 := wrapS (by omega) (by omega)
  have q1 := ws_get hx j
  have q2 := ws_get hy j
  have p1 : val (x.take j) < 18446744073709551616 ^ j := val_take_lt hx j
  have p2 : val (y.take j) < 18446744073709551616 ^ j := val_take_lt hy j
  simp only [limbs_Cmp.l0]
  rw [e0, if_pos (by omega), if_pos (by omega), if_pos (by omega), if_pos (by omega), rd_nat, rd_nat, e1, ih k (by omega) (by omega), val_take_succ x j (by omega), val_take_succ y j (by omega), cmpI_top p1 p2]
  by_cases a : x.getD j 0 = y.getD j 0
  ·rw [if_pos a, a, if_neg (by omega), if_neg (by omega)]
  rw [if_neg a]
  by_cases b : x.getD j 0 < y.getD j 0
  ·rw [if_pos b, if_pos (by omega)]
  rw [if_neg b, if_neg (by omega), if_pos (by omega)]
theorem lCmp_eq (a b : List Int) (k : Nat) (ha : Ws a) (hb : Ws b) (na : a.length < 17592186044000) (nb : b.length < 17592186044000) (hk : a.length + b.length < k) : limbs_Cmp.f k a b = some (cmpI (val a) (val b)) := by
 unfold limbs_Cmp.f
 rw [trim_eq a k ha (by omega) (by omega), bind_s, trim_eq b k hb (by omega) (by omega), bind_s]
 have hla : (ofN (val a)).length ≤ a.length := (ofN_len _ _).2 (val_lt ha)
 by_cases e : (ofN (val a)).length = (ofN (val b)).length
 ·have w : wrap64 (((ofN (val a)).length : Int) - 1) = ((ofN (val a)).length : Int) - 1 := wrapS (by omega) (by omega)
  rw [if_pos (by omega), w, lcmp_loop _ _ (ws_ofN _) (ws_ofN _) e (by omega) _ k (Nat.le_refl _) (by omega), val_take_ge _ _ (Nat.le_refl _), val_take_ge _ _ (by omega), val_ofN, val_ofN]
 rw [if_neg (by omega)]
 by_cases l : (ofN (val a)).length < (ofN (val b)).length
 ·have := cmpI_len l
  rw [if_pos (by omega)]; unfold cmpI; rw [if_pos this]
 have := cmpI_len (show (ofN (val b)).length < (ofN (val a)).length by omega)
 rw [if_neg (by omega)]; unfold cmpI; rw [if_neg (by omega), if_neg (by omega)]
theorem ladd_swap (k : Nat) : ∀ a b o c n j, limbs_Add.l0 k a b o c n j = limbs_Add.l100 k a b o c n j := by
 induction k with
 | zero => intro a b o c n j; simp only [limbs_Add.l0, limbs_Add.l100]
 | succ k ih => intro a b o c n j; simp only [limbs_Add.l0, limbs_Add.l100, ih]
end Go.Proofs.YtjnfipkbgmdpaaaDoor.Nf

namespace Go.Proofs.YtjnfipkbgmdpaaaDoor.Nf
open Go.RowKit Go.Proofs.YtjnfipkbgmdpaaaDoor.PAll Go.Proofs.YtjnfipkbgmdpaaaDoorW.PrintWords Go.Proofs.YtjnfipkbgmdpaaaDoorW.PrintLast Go.Proofs.YtjnfipkbgmdpaaaDoorW.PrintMore Go.Proofs.YtjnfipkbgmdpaaaDoor.Nm
set_option linter.unusedVariables false
set_option linter.unusedSimpArgs false
theorem ladd_loop (a b : List Int) (ha : Ws a) (hb : Ws b) (na : a.length < 4611686018427387900) (nb : b.length ≤ a.length) (r : Nat) : ∀ (j : Nat) (k : Nat) (o : List Int) (c : Nat), a.length - j = r → j ≤ a.length → r + a.length + 2 < k → o.length = a.length + 1 → Ws o → c ≤ 1 →
  val (o.take j) + 18446744073709551616 ^ j * c = val (a.take j) + val (b.take j) →
  limbs_Add.l100 k a b o c a.length j = some (ofN (val a + val b)) := by
 induction r with
 | zero =>
  intro j k o c hr hj hk ho hw hc hv
  obtain ⟨k, rfl⟩ : ∃ m, k = m + 1 := ⟨k - 1, by omega⟩
  obtain rfl : j = a.length := by omega
  simp only [limbs_Add.l100]
  rw [if_neg (by omega), if_pos (by omega), if_pos (by omega), Int.toNat_natCast]
  rw [trim_eq _ k (ws_set hw _ (by omega) (by omega)) (by rw [List.length_set]; omega) (by rw [List.length_set]; omega), bind_s]
  have e := val_set_take o a.length (c : Int) (by omega)
  rw [val_take_ge _ (a.length + 1) (by rw [List.length_set]; omega), Int.toNat_natCast] at e
  rw [val_take_ge a _ (Nat.le_refl _), val_take_ge b _ nb] at hv
  rw [e, hv]
 | succ r ih =>
  intro j k o c hr hj hk ho hw hc hv
  obtain ⟨k, rfl⟩ : ∃ m, k = m + 1 := ⟨k - 1, by omega⟩
  simp only [limbs_Add.l100]
  have i5 : ¬ (j : Int) < (b.length : Int) → 0 = b.getD j 0 := fun h => (getD_ge _ _ (by omega)).symm
  have i4 : j < o.length := by omega
  have i1 : a.length - (j + 1) = r := by omega
  have i2 : j + 1 ≤ a.length := by omega
  have i3 : r + a.length + 2 < k := by omega
  have pa := ws_get ha j; have pb := ws_get hb j
  have t1 : (j : Int) < (a.length : Int) := by omega
  have t2 : (0 : Int) ≤ (j : Int) := by omega
  have t3 : (c : Int) ≤ 1 := by omega
  have t4 : (j : Int) < (o.length : Int) := by omega
  have wj : wrap64 ((j : Int) + 1) = ((j + 1 : Nat) : Int) := by rw [wrapS (by omega) (by omega)]; omega
  have key : ∀ y : Int, 0 ≤ y → y < 18446744073709551616 → y = b.getD j 0 →
    limbs_Add.l100 k a b (o.set j (add64s (a.getD j 0) y c)) (add64c (a.getD j 0) y c) a.length ((j + 1 : Nat) : Int) = some (ofN (val a + val b)) := by
   intro y y0 y1 hy
   obtain ⟨d, hd, ed⟩ := a64c_bd (x := a.getD j 0) (y := y) (c := c) pa.2 y1 hc
   rw [ed]
   have hs : (add64s (a.getD j 0) y c).toNat + 18446744073709551616 * d = (a.getD j 0).toNat + y.toNat + c := by
    rw [a64s]; rw [a64c] at ed
    simp only [Int.toNat_natCast] at ed ⊢
    omega
   refine ih (j + 1) k _ d i1 i2 i3 (by rw [List.length_set]; exact ho) (ws_set hw _ (a64s_lo _ _ _) (a64s_hi _ _ _)) hd ?_
   rw [val_set_take o j _ i4, take_succ_getD a, take_succ_getD b, ← hy, Nat.pow_succ]
   exact add_step hs hv
  rw [if_pos t1]
  by_cases h : (j : Int) < (b.length : Int)
  ·rw [if_pos h, if_pos t2, if_pos t1, if_pos t3, if_pos t4, rd_nat, rd_nat, Int.toNat_natCast, wj]; exact key _ pb.1 pb.2 rfl
  rw [if_neg h, if_pos t2, if_pos t1, if_pos t3, if_pos t4, rd_nat, Int.toNat_natCast, wj]; exact key 0 (Int.le_refl 0) (by decide) (i5 h)
theorem lAdd_eq (a b : List Int) (ha : Ws a) (hb : Ws b) (na : a.length < 17592186044000) (nb : b.length < 17592186044000) (k : Nat) (hk : 2 * (a.length + b.length) + 3 < k) : limbs_Add.f k a b = some (ofN (val a + val b)) := by
 have z : ∀ n, val ((List.replicate n (0 : Int)).take 0) + 18446744073709551616 ^ 0 * 0 = 0 := fun n => by simp [val]
 unfold limbs_Add.f
 by_cases h : (a.length : Int) < (b.length : Int)
 ·have w : wrap64 ((b.length : Int) + 1) = ((b.length + 1 : Nat) : Int) := by rw [wrapS (by omega) (by omega)]; omega
  rw [if_pos h, w, if_pos (by omega), Int.toNat_natCast, if_pos (by omega), ladd_swap]
  have t := ladd_loop b a hb ha (by omega) (by omega) b.length 0 k (List.replicate (b.length + 1) 0) 0 (by omega) (by omega) (by omega) (by simp) (ws_replicate _) (by omega) (by simp [val])
  rw [Nat.add_comm (val a)]; exact t
 have w : wrap64 ((a.length : Int) + 1) = ((a.length + 1 : Nat) : Int) := by rw [wrapS (by omega) (by omega)]; omega
 rw [if_neg h, w, if_pos (by omega), Int.toNat_natCast, if_pos (by omega)]
 exact ladd_loop a b ha hb (by omega) (by omega) a.length 0 k (List.replicate (a.length + 1) 0) 0 (by omega) (by omega) (by omega) (by simp) (ws_replicate _) (by omega) (by simp [val])
theorem lsub_loop (a b : List Int) (ha : Ws a) (hb : Ws b) (na : a.length < 4611686018427387904) (hle : val b ≤ val a) (hl : b.length ≤ a.length) (r : Nat) : ∀ (j : Nat) (k : Nat) (o : List Int) (c : Nat), a.length - j = r → j ≤ a.length → r + a.length + 2 < k → o.length = a.length → Ws o → c ≤ 1 →
  val (a.take j) + 18446744073709551616 ^ j * c = val (o.take j) + val (b.take j) →
  limbs_Sub.l0 k a b o c a.length j = some (ofN (val a - val b)) := by
 induction r with
 | zero =>
  intro j k o c hr hj hk ho hw hc hv
  obtain ⟨k, rfl⟩ : ∃ m, k = m + 1 := ⟨k - 1, by omega⟩
  obtain rfl : j = a.length := by omega
  simp only [limbs_Sub.l0]
  rw [if_neg (by omega), trim_eq _ k hw (by omega) (by omega), bind_s]
  have := val_lt hw
  rw [ho] at this
  rw [val_take_ge _ _ (by omega), val_take_ge _ _ (by omega), val_take_ge _ _ (by omega)] at hv
  generalize 18446744073709551616 ^ a.length = p at *
  have : c = 0 := by
   rcases Nat.lt_or_ge c 1 with h | h
   ·omega
   have : c = 1 := by omega
   subst this; omega
  subst this
  rw [Nat.mul_zero] at hv
  congr 2; omega
 | succ r ih =>
  intro j k o c hr hj hk ho hw hc hv
  obtain ⟨k, rfl⟩ : ∃ m, k = m + 1 := ⟨k - 1, by omega⟩
  simp only [limbs_Sub.l0]
  have i5 : ¬ (j : Int) < (b.length : Int) → 0 = b.getD j 0 := fun h => (getD_ge _ _ (by omega)).symm
  have i4 : j < o.length := by omega
  have i1 : a.length - (j + 1) = r := by omega
  have i2 : j + 1 ≤ a.length := by omega
  have i3 : r + a.length + 2 < k := by omega
  have pa := ws_get ha j; have pb := ws_get hb j
  have t1 : (j : Int) < (a.length : Int) := by omega
  have t2 : (0 : Int) ≤ (j : Int) := by omega
  have t3 : (c : Int) ≤ 1 := by omega
  have t4 : (j : Int) < (o.length : Int) := by omega
  have wj : wrap64 ((j : Int) + 1) = ((j + 1 : Nat) : Int) := wrap_succ (by omega)
  have key : ∀ y : Int, 0 ≤ y → y < 18446744073709551616 → y = b.getD j 0 →
    limbs_Sub.l0 k a b (o.set j (sub64s (a.getD j 0) y c)) (sub64c (a.getD j 0) y c) a.length ((j + 1 : Nat) : Int) = some (ofN (val a - val b)) := by
   intro y y0 y1 hy
   obtain ⟨d, hd, ed, hs⟩ := sub_word pa.1 pa.2 y0 y1 hc
   rw [ed]
   refine ih (j + 1) k _ d i1 i2 i3 (by rw [List.length_set]; exact ho) (ws_set hw _ (s64s_lo _ _ _) (s64s_hi _ _ _)) hd ?_
   rw [val_set_take o j _ i4, take_succ_getD a, take_succ_getD b, ← hy, Nat.pow_succ]
   exact add_step hs hv
  rw [if_pos t1]
  by_cases h : (j : Int) < (b.length : Int)
  ·rw [if_pos h, if_pos t2, if_pos t1, if_pos t3, if_pos t4, rd_nat, rd_nat, Int.toNat_natCast, wj]; exact key _ pb.1 pb.2 rfl
  rw [if_neg h, if_pos t2, if_pos t1, if_pos t3, if_pos t4, rd_nat, Int.toNat_natCast, wj]; exact key 0 (Int.le_refl 0) (by decide) (i5 h)
theorem lSub_eq (a b : Nat) (h : b ≤ a) (k : Nat) (na : (ofN a).length < 17592186044000) (hk : 2 * (ofN a).length + 3 < k) : limbs_Sub.f k (ofN a) (ofN b) = some (ofN (a - b)) := by
 unfold limbs_Sub.f
 rw [if_pos (by omega), Int.toNat_natCast, if_pos (by omega)]
 have t := lsub_loop (ofN a) (ofN b) (ws_ofN a) (ws_ofN b) (by omega) (by rw [val_ofN, val_ofN]; exact h) (ofN_len_le h) (ofN a).length 0 k (List.replicate (ofN a).length 0) 0 (by omega) (by omega) (by omega) (by simp) (ws_replicate _) (by omega) (by simp [val])
 rw [val_ofN, val_ofN] at t; exact t
end Go.Proofs.YtjnfipkbgmdpaaaDoor.Nf

namespace Go.Proofs.YtjnfipkbgmdpaaaDoor.Nf
open Go.RowKit Go.Proofs.YtjnfipkbgmdpaaaDoor.PAll Go.Proofs.YtjnfipkbgmdpaaaDoorW.PrintWords Go.Proofs.YtjnfipkbgmdpaaaDoorW.PrintLast Go.Proofs.YtjnfipkbgmdpaaaDoorW.PrintMore Go.Proofs.YtjnfipkbgmdpaaaDoor.Nm
set_option linter.unusedVariables false
set_option linter.unusedSimpArgs false
theorem a64s_comm (x y : Int) : add64s x y 0 = add64s y x 0 := by rw [a64s, a64s, Nat.add_comm x.toNat]
theorem a64c_comm (x y : Int) : add64c x y 0 = add64c y x 0 := by rw [a64c, a64c, Nat.add_comm x.toNat]
theorem mac_l {o c p : Nat} (h : (o + c + p) / 18446744073709551616 < 18446744073709551616) :
  add64s (o : Int) (add64s ((p % 18446744073709551616 : Nat) : Int) (c : Int) 0) 0 = (((o + c + p) % 18446744073709551616 : Nat) : Int) ∧
  IntKind.u64.wrap ((IntKind.u64.wrap (((p / 18446744073709551616 : Nat) : Int) + add64c ((p % 18446744073709551616 : Nat) : Int) (c : Int) 0)) + add64c (o : Int) (add64s ((p % 18446744073709551616 : Nat) : Int) (c : Int) 0) 0) = (((o + c + p) / 18446744073709551616 : Nat) : Int) := by
 have e : c + o + p = o + c + p := by omega
 obtain ⟨m1, m2⟩ := mac_eq (o := c) (c := o) (p := p) (by rw [e]; exact h)
 rw [a64s_comm (o : Int), a64c_comm (o : Int), m1, m2, e]
 exact ⟨rfl, rfl⟩
theorem lmul_inner (a b : List Int) (hb : Ws b) (i x L F V0 : Nat) (R : Option (List Int)) (hx : x < 18446744073709551616) (hL : i + b.length + 1 ≤ L) (hL2 : L < 70368744177664)
  (next : ∀ (k : Nat) (o : List Int), F < k → o.length = L → Ws o → val (o.take (i + b.length + 1)) = V0 + 18446744073709551616 ^ i * (x * val b) → (∀ m, i + b.length + 1 ≤ m → o.getD m 0 = 0) → limbs_Mul.l0 k b o a a.length ((i + 1 : Nat) : Int) = R) (s : Nat) :
  ∀ (j k : Nat) (o : List Int) (c : Nat), b.length - j = s → j ≤ b.length → F + s + 1 < k → o.length = L → Ws o → c < 18446744073709551616 → (∀ m, i + b.length ≤ m → o.getD m 0 = 0) →
  val (o.take (i + b.length)) + 18446744073709551616 ^ (i + j) * c = V0 + 18446744073709551616 ^ i * (x * val (b.take j)) →
  limbs_Mul.l1 k b o i x c a a.length i b b.length j = R := by
 induction s with
 | zero =>
  intro j k o c hs hj hk ho hw hc hz hv
  obtain ⟨k, rfl⟩ : ∃ m, k = m + 1 := ⟨k - 1, by omega⟩
  obtain rfl : j = b.length := by omega
  have g0 : ¬ ((b.length : Int) < (b.length : Int)) := by omega
  have b1 : i + b.length < 4611686018427387904 := by omega
  have b2 : i < 4611686018427387904 := by omega
  have g2 : ((i + b.length : Nat) : Int) < (o.length : Int) := by omega
  have i1 : i + b.length < o.length := by omega
  have i2 : F < k := by omega
  have hz' : ∀ m, i + b.length + 1 ≤ m → i + b.length ≤ m ∧ i + b.length ≠ m := fun m h => by omega
  have ww : wrap64 ((i : Int) + (b.length : Int)) = ((i + b.length : Nat) : Int) := by rw [wrapS (by omega) (by omega)]; omega
  simp only [limbs_Mul.l1]
  rw [if_neg g0, ww, if_pos (Int.natCast_nonneg _), if_pos g2, wrap_succ b2, Int.toNat_natCast]
  refine next k _ i2 (by rw [List.length_set]; exact ho) (ws_set hw _ (Int.natCast_nonneg _) (Int.ofNat_lt.2 hc)) ?_ ?_
  ·rw [val_set_take o _ _ i1, Int.toNat_natCast, hv, val_take_ge _ _ (Nat.le_refl _)]
  intro m hm
  obtain ⟨h1, h2⟩ := hz' m hm
  rw [Nm.getD_set_ne _ _ _ _ h2]; exact hz m h1
 | succ s ih =>
  intro j k o c hs hj hk ho hw hc hz hv
  obtain ⟨k, rfl⟩ : ∃ m, k = m + 1 := ⟨k - 1, by omega⟩
  have i1 : b.length - (j + 1) = s := by omega
  have i2 : j + 1 ≤ b.length := by omega
  have i3 : F + s + 1 < k := by omega
  have i4 : i + j < i + b.length := by omega
  have i5 : i + b.length ≤ o.length := by omega
  have g1 : (j : Int) < (b.length : Int) := by omega
  have g2 : ((i + j : Nat) : Int) < (o.length : Int) := by omega
  have b3 : j < 4611686018427387904 := by omega
  have hz' : ∀ m, i + b.length ≤ m → i + j ≠ m := fun m h => by omega
  have ww : wrap64 ((i : Int) + (j : Int)) = ((i + j : Nat) : Int) := by rw [wrapS (by omega) (by omega)]; omega
  obtain ⟨p0, p1⟩ := ws_get hb j
  obtain ⟨q0, q1⟩ := ws_get hw (i + j)
  have ey := asNat p0
  have eo := asNat q0
  have rs := row_step b i j x
  have vs := fun n : Nat => val_set o (i + j) (i + b.length) (n : Int) i4 i5
  generalize hyn : (b.getD j 0).toNat = y at *
  generalize hon : (o.getD (i + j) 0).toNat = u at *
  have y1 : y < 18446744073709551616 := Int.ofNat_lt.1 (ey ▸ p1)
  have u1 : u < 18446744073709551616 := Int.ofNat_lt.1 (eo ▸ q1)
  have hd := mul_bound u1 hc hx y1
  obtain ⟨m1, m2⟩ := mac_l (o := u) (c := c) (p := x * y) hd
  have hn : (u + c + x * y) % 18446744073709551616 < 18446744073709551616 := Nat.mod_lt _ (by decide)
  have hdm := Nat.mod_add_div (u + c + x * y) 18446744073709551616
  simp only [limbs_Mul.l1]
  rw [if_pos g1, if_pos (Int.natCast_nonneg _), if_pos g1, rd_nat, ey, Mul64_eq x y hx y1, bind_s, ww, if_pos (Int.natCast_nonneg _), if_pos g2, rd_nat, eo, wrap_succ b3, Int.toNat_natCast]
  dsimp only
  rw [m1, m2]
  refine ih (j + 1) k _ _ i1 i2 i3 (by rw [List.length_set]; exact ho) (ws_set hw _ (Int.natCast_nonneg _) (Int.ofNat_lt.2 hn)) hd ?_ ?_
  ·intro m hm
   rw [Nm.getD_set_ne _ _ _ _ (hz' m hm)]; exact hz m hm
  have vs' := vs ((u + c + x * y) % 18446744073709551616)
  rw [Int.toNat_natCast] at vs'
  rw [rs]
  exact mul_round vs' hdm hv
theorem lmul_outer (a b : List Int) (ha : Ws a) (hb : Ws b) (L : Nat) (hL : a.length + b.length = L) (hL2 : L < 35184372088832) (s : Nat) : ∀ (i k : Nat) (o : List Int), a.length - i = s → i ≤ a.length → s * (b.length + 2) + L + 10 < k → o.length = L → Ws o → (∀ m, i + b.length ≤ m → o.getD m 0 = 0) →
  val (o.take (i + b.length)) = val (a.take i) * val b → limbs_Mul.l0 k b o a a.length i = some (ofN (val a * val b)) := by
 induction s with
 | zero =>
  intro i k o hs hi hk ho hw hz hv
  obtain ⟨k, rfl⟩ : ∃ m, k = m + 1 := ⟨k - 1, by omega⟩
  obtain rfl : i = a.length := by omega
  have g0 : ¬ ((a.length : Int) < (a.length : Int)) := by omega
  simp only [limbs_Mul.l0]
  rw [if_neg g0, trim_eq o k hw (by omega) (by omega), bind_s]
  rw [val_take_ge o _ (by omega), val_take_ge a _ (Nat.le_refl _)] at hv
  rw [hv]
 | succ s ih =>
  intro i k o hs hi hk ho hw hz hv
  rw [Nat.succ_mul] at hk
  obtain ⟨k, rfl⟩ : ∃ m, k = m + 1 := ⟨k - 1, by omega⟩
  have i1 : a.length - (i + 1) = s := by omega
  have i2 : i + 1 ≤ a.length := by omega
  have g1 : (i : Int) < (a.length : Int) := by omega
  have hl : i + b.length + 1 ≤ L := by omega
  have hL3 : L < 70368744177664 := by omega
  have hF : (s * (b.length + 2) + L + 10) + b.length + 1 < k := by omega
  have e1 : i + 1 + b.length = i + b.length + 1 := by omega
  obtain ⟨p0, p1⟩ := ws_get ha i
  have ex := asNat p0
  have cs := col_step a b i
  generalize hxn : (a.getD i 0).toNat = x at *
  have x1 : x < 18446744073709551616 := Int.ofNat_lt.1 (ex ▸ p1)
  simp only [limbs_Mul.l0]
  rw [if_pos g1, if_pos (Int.natCast_nonneg _), if_pos g1, rd_nat, ex]
  refine lmul_inner a b hb i x L (s * (b.length + 2) + L + 10) (val (a.take i) * val b) _ x1 hl hL3 ?_ b.length 0 k o 0 rfl (Nat.zero_le _) hF ho hw (by decide) hz (by rw [hv]; simp [val])
  intro k' o' hk' ho' hw' hv' hz'
  refine ih (i + 1) k' o' i1 i2 hk' ho' hw' (by rw [e1]; exact hz') ?_
  rw [e1, hv', cs]
theorem lMul_eq (a b : List Int) (k : Nat) (ha : Ws a) (hb : Ws b) (na : a.length < 17592186044000) (nb : b.length < 17592186044000) (hk : a.length + b.length < k) (hk2 : (ofN (val a)).length * ((ofN (val b)).length + 2) + (ofN (val a)).length + (ofN (val b)).length + 10 < k) : limbs_Mul.f k a b = some (ofN (val a * val b)) := by
 unfold limbs_Mul.f
 rw [trim_eq a k ha (by omega) (by omega), bind_s, trim_eq b k hb (by omega) (by omega), bind_s]
 have hla : (ofN (val a)).length ≤ a.length := (ofN_len _ _).2 (val_lt ha)
 have hlb : (ofN (val b)).length ≤ b.length := (ofN_len _ _).2 (val_lt hb)
 have t := lmul_outer (ofN (val a)) (ofN (val b)) (ws_ofN _) (ws_ofN _) _ rfl (by omega) (ofN (val a)).length 0 k (List.replicate ((ofN (val a)).length + (ofN (val b)).length) 0) rfl (Nat.zero_le _) (by omega) (by simp) (ws_replicate _) (fun m _ => getD_rep _ _) (by rw [List.take_zero, List.take_replicate, val_replicate]; simp [val])
 rw [val_ofN, val_ofN] at t
 have e : wrap64 (((ofN (val a)).length : Int) + ((ofN (val b)).length : Int)) = (((ofN (val a)).length + (ofN (val b)).length : Nat) : Int) := by rw [wrapS (by omega) (by omega)]; omega
 rw [e, if_pos (Int.natCast_nonneg _), Int.toNat_natCast, if_pos (by omega)]
 exact t
end Go.Proofs.YtjnfipkbgmdpaaaDoor.Nf

namespace Go.Proofs.YtjnfipkbgmdpaaaDoor.Nf
open Go.RowKit Go.Proofs.YtjnfipkbgmdpaaaDoor.PAll Go.Proofs.YtjnfipkbgmdpaaaDoorW.PrintWords Go.Proofs.YtjnfipkbgmdpaaaDoorW.PrintLast Go.Proofs.YtjnfipkbgmdpaaaDoorW.PrintMore Go.Proofs.YtjnfipkbgmdpaaaDoor.Nm
set_option linter.unusedVariables false
set_option linter.unusedSimpArgs false
theorem wrap_addl {a b : Nat} (h : a + b < 4611686018427387904) : wrap64 ((a : Int) + (b : Int)) = ((a + b : Nat) : Int) := by rw [wrapS (by omega) (by omega)]; omega
def Q64 (n q : Nat) : Prop := wrap64 (Int.tdiv (n : Int) 64) = (q : Int)
theorem lshl_loop (n : Nat) (a : List Int) (ha : Ws a) (q s : Nat) (e1 : Q64 n q) (hs : s < 64) (na : a.length + q < 35184372088000) (r : Nat) : ∀ (j k : Nat) (o : List Int) (c : Nat), a.length - j = r → j ≤ a.length → r + a.length + q + 3 < k → o.length = a.length + q + 1 → Ws o → c < 2 ^ s → o.getD (q + j) 0 = c → (∀ i, q + j < i → o.getD i 0 = 0) →
  val (o.take (q + j)) + 18446744073709551616 ^ (q + j) * c = 18446744073709551616 ^ q * (val (a.take j) * 2 ^ s) →
  limbs_Shl.l0 k n o s a a.length j = some (ofN (18446744073709551616 ^ q * (val a * 2 ^ s))) := by
 have h2 : 2 ^ s ≤ 18446744073709551616 := by rw [← pow_split (show s ≤ 64 by omega)]; exact Nat.le_mul_of_pos_right _ (Nat.pow_pos (by decide))
 induction r with
 | zero =>
  intro j k o c hr hj hk ho hw hc hg hz hv
  obtain ⟨k, rfl⟩ : ∃ m, k = m + 1 := ⟨k - 1, by omega⟩
  obtain rfl : j = a.length := by omega
  simp only [limbs_Shl.l0]
  rw [if_neg (by omega), trim_eq _ k hw (by omega) (by omega), bind_s]
  have e := val_take_succ o (q + a.length) (by omega)
  rw [hg, Int.toNat_natCast, hv, val_take_ge _ _ (by omega), val_take_ge _ _ (Nat.le_refl _)] at e
  rw [e]
 | succ r ih =>
  intro j k o c hr hj hk ho hw hc hg hz
  obtain ⟨k, rfl⟩ : ∃ m, k = m + 1 := ⟨k - 1, by omega⟩
  have i1 : a.length - (j + 1) = r := by omega
  have i2 : j + 1 ≤ a.length := by omega
  have i3 : r + a.length + q + 3 < k := by omega
  have i4 : q + j + 1 < o.length := by omega
  have b1 : j + q < 4611686018427387904 := by omega
  have b2 : q + j < 4611686018427387904 := by omega
  have b3 : j < 4611686018427387904 := by omega
  have g1 : (j : Int) < (a.length : Int) := by omega
  have g2 : ((q + j : Nat) : Int) < (o.length : Int) := by omega
  have g3 : ((q + j + 1 : Nat) : Int) < (o.length : Int) := by omega
  have hs' : s ≤ 64 := by omega
  have l0 : 2 ^ s ≤ 18446744073709551616 := h2
  have hz' : ∀ i, q + (j + 1) < i → q + j < i ∧ q + j + 1 ≠ i ∧ q + j ≠ i := fun i hi => by omega
  have hq1 : q + j < q + j + 1 := by omega
  intro hv
  simp only [limbs_Shl.l0]
  rw [if_pos g1, if_pos (Int.natCast_nonneg _), if_pos g1, show wrap64 (Int.tdiv (n : Int) 64) = (q : Int) from e1, wrap_addl b2, wrap_succ b2, if_pos (Int.natCast_nonneg _), if_pos g2, if_pos (Int.natCast_nonneg _), wrap_succ b3]
  simp only [rd_nat, Int.toNat_natCast]
  obtain ⟨p0, p1⟩ := ws_get ha j
  have ew := asNat p0
  generalize hwn : (a.getD j 0).toNat = w at ew
  have w1 : w < 18446744073709551616 := Int.ofNat_lt.1 (ew ▸ p1)
  rw [ew, hg, or_shl' hs' hc, bind_s]
  have l1 := or_shl_lt (w := w) hs' hc
  have e := (shl_parts (w := w) (s := s) hs').2
  have key : ∀ d : Nat, d = w / 2 ^ (64 - s) → limbs_Shl.l0 k n ((o.set (q + j) ((w * 2 ^ s % 18446744073709551616 + c : Nat) : Int)).set (q + j + 1) (d : Int)) s a a.length ((j + 1 : Nat) : Int) = some (ofN (18446744073709551616 ^ q * (val a * 2 ^ s))) := by
   intro d hd
   have l2 : d < 2 ^ s := by rw [hd]; exact shr_up_lt hs' w1
   refine ih (j + 1) k _ d i1 i2 i3 (by rw [List.length_set, List.length_set]; exact ho) (ws_set (ws_set hw _ (Int.natCast_nonneg _) (Int.ofNat_lt.2 l1)) _ (Int.natCast_nonneg _) (Int.ofNat_lt.2 (Nat.lt_of_lt_of_le l2 h2))) l2 ?_ ?_ ?_
   ·exact Nm.getD_set_eq _ _ _ (by rw [List.length_set]; exact i4)
   ·intro i hi
    obtain ⟨z1, z2, z3⟩ := hz' i hi
    rw [Nm.getD_set_ne _ _ _ _ z2, Nm.getD_set_ne _ _ _ _ z3]
    exact hz i z1
   rw [← hd] at e
   have := val_take_succ ((o.set (q + j) ((w * 2 ^ s % 18446744073709551616 + c : Nat) : Int)).set (q + j + 1) (d : Int)) (q + j + 1) (by rw [List.length_set, List.length_set]; exact i4)
   rw [val_set2 _ _ _ _ i4, Nm.getD_set_eq _ _ _ (by rw [List.length_set]; exact i4), Int.toNat_natCast] at this
   have e3 : q + (j + 1) = q + j + 1 := rfl
   rw [e3]
   rw [← this, take_succ_getD a, hwn, Nat.pow_succ, Nat.pow_add]
   rw [Nat.pow_add] at hv
   exact shl_step e hv
  by_cases h : (s : Int) > 0
  ·have hs64 : 64 - s ≤ 64 := by omega
   have e64 : wrap64 (64 - (s : Int)) = ((64 - s : Nat) : Int) := by rw [wrapS (by omega) (by omega)]; omega
   rw [if_pos h, e64, if_pos (Int.natCast_nonneg _), if_pos (Int.natCast_nonneg _), if_pos g3, shr_eq _ _ hs64]
   exact key _ rfl
  have : s = 0 := by omega
  rw [if_neg h]
  have k0 := key 0 (by subst this; rw [Nat.div_eq_of_lt (show w < 2 ^ (64 - 0) from w1)])
  have same : ((o.set (q + j) ((w * 2 ^ s % 18446744073709551616 + c : Nat) : Int)).set (q + j + 1) ((0 : Nat) : Int)) = o.set (q + j) ((w * 2 ^ s % 18446744073709551616 + c : Nat) : Int) := by
   have h0 := hz (q + j + 1) hq1
   refine List.ext_getElem (by simp) fun i g1 g2 => ?_
   by_cases hi : i = q + j + 1
   ·subst hi
    rw [List.getElem_set_self, List.getElem_set_ne (by omega)]
    rw [List.getD_eq_getElem?_getD, List.getElem?_eq_getElem i4] at h0
    exact h0.symm
   rw [List.getElem_set_ne (by omega)]
  rw [same] at k0
  exact k0
theorem lShl_eq (a : List Int) (n k : Nat) (ha : Ws a) (hn : n < 4611686018427387904) (na : a.length + n / 64 < 17592186044000) (hk : 3 * a.length + n / 64 + 10 < k) : limbs_Shl.f k a n = some (ofN (val a * 2 ^ n)) := by
 unfold limbs_Shl.f
 have hla : (ofN (val a)).length ≤ a.length := (ofN_len _ _).2 (val_lt ha)
 rw [trim_eq a k ha (by omega) (by omega), bind_s]
 by_cases h : val a = 0
 ·have := ofN_zero_iff.2 h
  rw [if_pos (by omega), h, Nat.zero_mul, ofN_zero]
 have hl : (ofN (val a)).length ≠ 0 := fun z => h (ofN_zero_iff.1 z)
 have f1 : n % 64 < 64 := by omega
 have f2 : (ofN (val a)).length + n / 64 < 35184372088000 := by omega
 have f3 : (ofN (val a)).length + (ofN (val a)).length + n / 64 + 3 < k := by omega
 have c1 : (ofN (val a)).length + n / 64 + 1 ≤ 35184372088832 := by omega
 have c2 : ¬ (((ofN (val a)).length : Int) = 0) := by omega
 have b1 : n / 64 + (ofN (val a)).length + 1 < 4611686018427387904 := by omega
 have e1 : Q64 n (n / 64) := by
  unfold Q64
  rw [Int.tdiv_eq_ediv_of_nonneg (by omega), wrapS (by omega) (by omega)]; omega
 have t := lshl_loop n (ofN (val a)) (ws_ofN _) (n / 64) (n % 64) e1 f1 f2 _ 0 k (List.replicate ((ofN (val a)).length + n / 64 + 1) 0) 0 rfl (Nat.zero_le _) (by rw [Nat.sub_zero]; exact f3) (by simp) (ws_replicate _) (Nat.pow_pos (by decide)) (by rw [getD_rep]; rfl) (fun i _ => getD_rep _ _) (by simp [val_replicate, val])
 rw [val_ofN] at t
 have e2 : Int.tmod (n : Int) 64 = ((n % 64 : Nat) : Int) := by
  clear t e1
  rw [Int.tmod_eq_emod_of_nonneg (by omega)]; omega
 have e3 : wrap64 ((wrap64 (((n / 64 : Nat) : Int) + ((ofN (val a)).length : Int))) + 1) = (((ofN (val a)).length + n / 64 + 1 : Nat) : Int) := by
  clear t e1 e2 hn na hk f1 f2 f3 c1 hla
  generalize n / 64 = q at *
  generalize (ofN (val a)).length = m at *
  rw [wrapS (x := (q : Int) + (m : Int)) (by omega) (by omega), wrapS (by omega) (by omega)]; omega
 rw [if_neg c2, show wrap64 (Int.tdiv (n : Int) 64) = ((n / 64 : Nat) : Int) from e1, e2, e3, if_pos (Int.natCast_nonneg _), Int.toNat_natCast, if_pos c1, pow_parts n, Nat.mul_left_comm]
 exact t
end Go.Proofs.YtjnfipkbgmdpaaaDoor.Nf

namespace Go.Proofs.YtjnfipkbgmdpaaaDoor.Nf
open Go.RowKit Go.Proofs.YtjnfipkbgmdpaaaDoor.PAll Go.Proofs.YtjnfipkbgmdpaaaDoorW.PrintWords Go.Proofs.YtjnfipkbgmdpaaaDoorW.PrintLast Go.Proofs.YtjnfipkbgmdpaaaDoorW.PrintMore Go.Proofs.YtjnfipkbgmdpaaaDoor.Nm
set_option linter.unusedVariables false
set_option linter.unusedSimpArgs false
theorem llow_loop (v : Nat) (hl : (ofN v).length < 4503599627370496) (s : Nat) : ∀ (i k : Nat), (ofN v).length - i = s → i ≤ (ofN v).length → s < k → val ((ofN v).take i) = 0 →
  (v = 0 → limbs_Low.l0 k (ofN v) (ofN v).length i = some 0) ∧ (∀ t m : Nat, v = 2 ^ t * (2 * m + 1) → limbs_Low.l0 k (ofN v) (ofN v).length i = some (t : Int)) := by
 induction s with
 | zero =>
  intro i k hs hi hk hz
  obtain ⟨k, rfl⟩ : ∃ z, k = z + 1 := ⟨k - 1, by omega⟩
  obtain rfl : i = (ofN v).length := by omega
  rw [val_take_ge _ _ (Nat.le_refl _), val_ofN] at hz
  have g : limbs_Low.l0 (k + 1) (ofN v) (ofN v).length ((ofN v).length : Nat) = some 0 := by
   simp only [limbs_Low.l0]; rw [if_neg (by omega)]
  refine ⟨fun _ => g, fun t m ht => ?_⟩
  have : 0 < 2 ^ t * (2 * m + 1) := Nat.mul_pos (Nat.pow_pos (by decide)) (by omega)
  omega
 | succ s ih =>
  intro i k hs hi hk hz
  obtain ⟨k, rfl⟩ : ∃ z, k = z + 1 := ⟨k - 1, by omega⟩
  have i1 : (ofN v).length - (i + 1) = s := by omega
  have i2 : i + 1 ≤ (ofN v).length := by omega
  have i3 : s < k := by omega
  have g1 : (i : Int) < ((ofN v).length : Int) := by omega
  have b3 : i < 4611686018427387904 := by omega
  have i5 : i < (ofN v).length := by omega
  obtain ⟨p0, p1⟩ := ws_get (ws_ofN v) i
  have ew := asNat p0
  have ts := val_take_succ (ofN v) i i5
  have td := val_take_drop (ofN v) i (Nat.le_of_lt i5)
  have vd := val_drop (ofN v) i i5
  rw [hz] at ts td
  rw [val_ofN, vd] at td
  simp only [limbs_Low.l0]
  rw [if_pos g1, if_pos (Int.natCast_nonneg _), if_pos g1, rd_nat]
  generalize hwn : ((ofN v).getD i 0).toNat = w at *
  by_cases h : w = 0
  ·have := ih (i + 1) k i1 i2 i3 (by rw [ts, h]; simp)
   rw [if_pos (by rw [ew, h]; rfl), wrap_succ b3]
   exact this
  have w1 : w < 18446744073709551616 := Int.ofNat_lt.1 (ew ▸ p1)
  obtain ⟨s', c, hc⟩ := low_form w h
  obtain ⟨tz, ts64⟩ := Trail_eq hc w1
  have e2 : wrap64 (64 * (i : Int)) = ((64 * i : Nat) : Int) := by rw [wrapS (by omega) (by omega)]; omega
  have e3 : wrap64 (((64 * i : Nat) : Int) + (s' : Int)) = ((64 * i + s' : Nat) : Int) := by clear e2; rw [wrapS (by omega) (by omega)]; omega
  have hw0 : ¬ (w : Int) = 0 := by clear e2 e3; omega
  rw [ew, if_neg hw0, tz, bind_s, e2, e3]
  clear e2 e3
  have hv : v = 2 ^ (64 * i + s') * (2 * (c + 2 ^ (63 - s') * val ((ofN v).drop (i + 1))) + 1) := by
   have eB : (18446744073709551616 : Nat) = 2 ^ s' * (2 * 2 ^ (63 - s')) := by
    have := pow_split (show s' ≤ 64 by omega)
    have e3 : 64 - s' = (63 - s') + 1 := by omega
    rw [e3, Nat.pow_succ, Nat.mul_comm _ 2] at this
    exact this.symm
   have eP : (18446744073709551616 : Nat) ^ i = 2 ^ (64 * i) := by rw [Nat.pow_mul]
   generalize val ((ofN v).drop (i + 1)) = R at *
   have e5 : w + 18446744073709551616 * R = 2 ^ s' * (2 * (c + 2 ^ (63 - s') * R) + 1) := by
    rw [eB, hc, Nat.mul_assoc, ← Nat.mul_add, Nat.mul_add 2 c, Nat.mul_assoc 2]
    congr 1; omega
   rw [Nat.zero_add, e5, eP, ← Nat.mul_assoc, ← Nat.pow_add] at td
   exact td
  refine ⟨fun z => ?_, fun t m ht => ?_⟩
  ·have : 0 < 2 ^ (64 * i + s') * (2 * (c + 2 ^ (63 - s') * val ((ofN v).drop (i + 1))) + 1) := Nat.mul_pos (Nat.pow_pos (by decide)) (by omega)
   omega
  have := low_unique (ht.symm.trans hv)
  rw [this]
theorem lLow_eq (v k : Nat) (hl : (ofN v).length < 4503599627370496) (hk : (ofN v).length < k) : (v = 0 → limbs_Low.f k (ofN v) = some 0) ∧ (∀ t m : Nat, v = 2 ^ t * (2 * m + 1) → limbs_Low.f k (ofN v) = some (t : Int)) := by
 unfold limbs_Low.f
 exact llow_loop v hl (ofN v).length 0 k (by omega) (Nat.zero_le _) hk (by simp [val])
end Go.Proofs.YtjnfipkbgmdpaaaDoor.Nf

namespace Go.Proofs.YtjnfipkbgmdpaaaDoor.Nf
open Go.RowKit Go.Proofs.YtjnfipkbgmdpaaaDoor.PAll Go.Proofs.YtjnfipkbgmdpaaaDoorW.PrintWords Go.Proofs.YtjnfipkbgmdpaaaDoorW.PrintLast Go.Proofs.YtjnfipkbgmdpaaaDoorW.PrintMore Go.Proofs.YtjnfipkbgmdpaaaDoor.Nm
set_option linter.unusedVariables false
set_option linter.unusedSimpArgs false
theorem lshr_loop (A : List Int) (ha : Ws A) (s : Nat) (hs : s < 64) (lost : Bool) (na : A.length < 35184372088832) (r : Nat) : ∀ (j k : Nat) (o : List Int), A.length - j = r → j ≤ A.length → r + A.length + 3 < k → o.length = A.length → Ws o →
  2 ^ s * val (o.take j) + (A.getD 0 0).toNat % 2 ^ s = val (A.take j) + 18446744073709551616 ^ j * ((A.getD j 0).toNat % 2 ^ s) →
  limbs_Shr.l0 k A lost o s A (A.length : Int) j = some (ofN (val A / 2 ^ s), lost) := by
 induction r with
 | zero =>
  intro j k o hr hj hk ho hw hv
  obtain ⟨k, rfl⟩ : ∃ m, k = m + 1 := ⟨k - 1, by omega⟩
  obtain rfl : j = A.length := by omega
  simp only [limbs_Shr.l0]
  rw [if_neg (by omega), trim_eq _ _ hw (by omega) (by omega), bind_s]
  rw [getD_ge A A.length (by omega), val_take_ge o _ (by omega), val_take_ge A _ (by omega)] at hv
  have h0 : (A.getD 0 0).toNat % 2 ^ s < 2 ^ s := Nat.mod_lt _ (Nat.pow_pos (by decide))
  have := (shr_end h0 (show 2 ^ s * val o + (A.getD 0 0).toNat % 2 ^ s = val A by rw [hv]; simp)).1
  rw [this]
 | succ r ih =>
  intro j k o hr hj hk ho hw hv
  obtain ⟨k, rfl⟩ : ∃ m, k = m + 1 := ⟨k - 1, by omega⟩
  have i1 : A.length - (j + 1) = r := by omega
  have i2 : j + 1 ≤ A.length := by omega
  have i3 : r + A.length + 3 < k := by omega
  have i4 : j < o.length := by omega
  have g1 : (j : Int) < (A.length : Int) := by omega
  have g3 : (j : Int) < (o.length : Int) := by omega
  have g4 : ((j + 1 : Nat) : Int) < (A.length : Int) ↔ j + 1 < A.length := by omega
  have b3 : j < 4611686018427387904 := by omega
  have hs' : s ≤ 64 := by omega
  have hs6 : 64 - s ≤ 64 := by omega
  have hsp : (s : Int) > 0 ↔ 0 < s := by omega
  have hs1 : -9223372036854775808 ≤ (64 : Int) - (s : Int) := by omega
  have hs2 : (64 : Int) - (s : Int) < 9223372036854775808 := by omega
  have hs3 : (64 : Int) - (s : Int) = ((64 - s : Nat) : Int) := by omega
  have hs0 : ¬ 0 < s → s = 0 := by omega
  have hge : ¬ j + 1 < A.length → A.length ≤ j + 1 := by omega
  simp only [limbs_Shr.l0]
  rw [if_pos g1, if_pos (Int.natCast_nonneg _), if_pos g1, if_pos (Int.natCast_nonneg _), if_pos g3, wrap_succ b3, bind_s]
  simp only [rd_nat, Int.toNat_natCast]
  obtain ⟨p0, p1⟩ := ws_get ha j
  obtain ⟨p2, p3⟩ := ws_get ha (j + 1)
  have ew := asNat p0
  have ew' := asNat p2
  generalize hwn : (A.getD j 0).toNat = w at ew
  generalize hwn' : (A.getD (j + 1) 0).toNat = w' at ew'
  have w1 : w < 18446744073709551616 := Int.ofNat_lt.1 (ew ▸ p1)
  rw [ew, shr_eq _ _ hs', Nm.getD_set_eq _ _ _ i4, List.set_set]
  have key : ∀ v : Nat, v = w / 2 ^ s + 2 ^ (64 - s) * (w' % 2 ^ s) → limbs_Shr.l0 k A lost (o.set j (v : Int)) s A (A.length : Int) ((j + 1 : Nat) : Int) = some (ofN (val A / 2 ^ s), lost) := by
   intro v hv2
   have l1 : v < 18446744073709551616 := by rw [hv2]; exact shr_word_lt hs' w1
   refine ih (j + 1) k _ i1 i2 i3 (by rw [List.length_set]; exact ho) (ws_set hw _ (Int.natCast_nonneg _) (Int.ofNat_lt.2 l1)) ?_
   rw [val_set_take o j _ i4, take_succ_getD, hwn', hwn, Int.toNat_natCast, Nat.pow_succ]
   rw [hwn] at hv
   exact shr_step (pow_split hs') hv2 hv
  by_cases h : 0 < s
  ·rw [if_pos (hsp.2 h)]
   by_cases g : j + 1 < A.length
   ·rw [if_pos (g4.2 g), if_pos (Int.natCast_nonneg _), wrapS hs1 hs2, hs3, if_pos (Int.natCast_nonneg _), ew', or_shr h hs w1]
    exact key _ rfl
   rw [if_neg (fun x => g (g4.1 x))]
   refine key _ ?_
   rw [getD_ge A _ (hge g)] at hwn'
   have : w' = 0 := hwn'.symm
   rw [this]; simp
  have h00 := hs0 h
  rw [if_neg (fun x => h (hsp.1 x))]
  refine key _ ?_
  rw [h00]; simp [Nat.mod_one]
theorem low_mod_ne (t m n : Nat) : (2 ^ t * (2 * m + 1)) % 2 ^ n ≠ 0 ↔ t < n := by
 constructor
 ·intro h
  refine Classical.byContradiction fun g => h ?_
  rw [show t = n + (t - n) by omega, Nat.pow_add, Nat.mul_assoc]
  exact Nat.mul_mod_right _ _
 intro h e
 obtain ⟨c, hc⟩ := Nat.dvd_of_mod_eq_zero e
 rw [show n = t + (1 + (n - t - 1)) by omega, Nat.pow_add, Nat.pow_add, Nat.mul_assoc] at hc
 have := Nat.eq_of_mul_eq_mul_left (Nat.pow_pos (by decide)) hc
 rw [Nat.pow_one, Nat.mul_assoc] at this
 omega
theorem lShr_eq (a : List Int) (n k : Nat) (ha : Ws a) (hn : n < 4611686018427387904) (na : a.length < 17592186044000) (hk : 3 * a.length + 10 < k) :
  limbs_Shr.f k a n = some (ofN (val a / 2 ^ n), decide (val a % 2 ^ n ≠ 0)) := by
 unfold limbs_Shr.f
 have hl : (ofN (val a)).length ≤ a.length := (ofN_len (val a) a.length).2 (val_lt ha)
 rw [trim_eq a k ha (by omega) (by omega), bind_s]
 generalize hv : val a = v at *
 have wv : Ws (ofN v) := ws_ofN v
 by_cases h0 : v = 0
 ·subst h0
  rw [ofN_zero, if_pos (show ((([] : List Int).length : Nat) : Int) = 0 from rfl), Nat.zero_div, Nat.zero_mod, ofN_zero]; rfl
 obtain ⟨t, m, e⟩ := low_form v h0
 have hne : (ofN v).length ≠ 0 := fun h => h0 (ofN_zero_iff.1 h)
 have q0 : ¬ ((ofN v).length : Int) = 0 := by omega
 have ql : (ofN v).length < 17592186044000 := by omega
 have qk : 3 * (ofN v).length + 10 < k := by omega
 rw [if_neg q0, ((lLow_eq v k (by omega) (by omega)).2 t m e), bind_s]
 have hd : decide ((t : Int) < (n : Int)) = decide (v % 2 ^ n ≠ 0) := by
  rw [decide_eq_decide, e, low_mod_ne]; omega
 rw [hd]
 have e2 : Int.tmod (n : Int) 64 = ((n % 64 : Nat) : Int) := by
  rw [Int.tmod_eq_emod_of_nonneg (by omega)]; omega
 have en : n = 64 * (n / 64) + n % 64 := by omega
 have hs : n % 64 < 64 := by omega
 have e1 : wrap64 (Int.tdiv (n : Int) 64) = ((n / 64 : Nat) : Int) := by
  have a1 : (-9223372036854775808 : Int) ≤ ((n / 64 : Nat) : Int) := by omega
  have a2 : ((n / 64 : Nat) : Int) < 9223372036854775808 := by omega
  rw [Int.tdiv_eq_ediv_of_nonneg (Int.natCast_nonneg n)]
  exact wrapS a1 a2
 rw [e1, e2]
 generalize n / 64 = q at *
 generalize n % 64 = s at *
 generalize hL : (ofN v).length = L at *
 by_cases h : L ≤ q
 ·have q1 : (q : Int) ≥ (L : Int) := by omega
  rw [if_pos q1]
  have h1 : v < 2 ^ n := by
   have := (ofN_len v L).1 (Nat.le_of_eq hL)
   refine Nat.lt_of_lt_of_le this ?_
   have e : 18446744073709551616 ^ L = 2 ^ (64 * L) := by rw [Nat.pow_mul]
   rw [e]; exact Nat.pow_le_pow_right (by decide) (by omega)
  rw [Nat.div_eq_of_lt h1, ofN_zero]
 have c1 : ¬ ((q : Int) ≥ (L : Int)) := by omega
 have c3 : (q : Int) ≤ (L : Int) := by omega
 have hdl : ((ofN v).drop q).length = L - q := by rw [List.length_drop, hL]
 have c5 : ((L - q : Nat) : Int).toNat ≤ 35184372088832 := by rw [Int.toNat_natCast]; omega
 have c6 : L - q < 35184372088832 := by omega
 have c7 : (L - q) + (L - q) + 3 < k := by omega
 rw [if_neg c1, if_pos (Int.natCast_nonneg _), if_pos c3, bind_s, Int.toNat_natCast, hdl, if_pos (Int.natCast_nonneg _), if_pos c5, Int.toNat_natCast]
 have hp := (shr_parts (q := q) (s := s) wv hs (by omega)).1
 rw [val_ofN] at hp
 have := lshr_loop ((ofN v).drop q) (ws_drop wv q) s hs (decide (v % 2 ^ n ≠ 0)) (by rw [hdl]; exact c6) _ 0 k (List.replicate (L - q) 0) rfl (Nat.zero_le _) (by rw [hdl]; exact c7) (by rw [hdl, List.length_replicate]) (ws_replicate _) (by simp [val])
 rw [hdl] at this
 rw [en, hp, ← en]
 exact this
end Go.Proofs.YtjnfipkbgmdpaaaDoor.Nf

namespace Go.Proofs.YtjnfipkbgmdpaaaDoor.Nf
open Go.RowKit Go.Proofs.YtjnfipkbgmdpaaaDoor.PAll Go.Proofs.YtjnfipkbgmdpaaaDoorW.PrintWords Go.Proofs.YtjnfipkbgmdpaaaDoorW.PrintLast Go.Proofs.YtjnfipkbgmdpaaaDoorW.PrintMore Go.Proofs.YtjnfipkbgmdpaaaDoor.Nm
set_option linter.unusedVariables false
set_option linter.unusedSimpArgs false
noncomputable def tz (n : Nat) : Nat := if h : n ≠ 0 then Classical.choose (low_form n h) else 0
theorem tz_eq {n t m : Nat} (h : n = 2 ^ t * (2 * m + 1)) : tz n = t := by
 have h0 : n ≠ 0 := by rw [h]; exact Nat.ne_of_gt (Nat.mul_pos (Nat.pow_pos (by decide)) (by omega))
 unfold tz
 rw [dif_pos h0]
 obtain ⟨m', hm⟩ := Classical.choose_spec (low_form n h0)
 exact low_unique (hm.symm.trans h)
noncomputable def od (n : Nat) : Nat := n / 2 ^ tz n
theorem od_eq {n t m : Nat} (h : n = 2 ^ t * (2 * m + 1)) : od n = 2 * m + 1 := by
 unfold od
 rw [tz_eq h, h, Nat.mul_div_cancel_left _ (Nat.pow_pos (by decide))]
theorem od_le (n : Nat) : od n ≤ n := Nat.div_le_self _ _
theorem od_mul (n : Nat) : od n * 2 ^ tz n = n := by
 by_cases h : n = 0
 ·subst h; unfold od; rw [Nat.zero_div, Nat.zero_mul]
 obtain ⟨t, m, e⟩ := low_form n h
 rw [od_eq e, tz_eq e, e, Nat.mul_comm]
theorem od_ne {n : Nat} (h : n ≠ 0) : od n ≠ 0 := fun e => h (by have := od_mul n; rw [e, Nat.zero_mul] at this; exact this.symm)
noncomputable def cf (s : Bool) (n : Nat) (e : Int) : Bool × List Int × Int := if n = 0 then (false, [], 0) else (s, ofN (od n), e + (tz n : Int))
theorem cf_zero (s : Bool) (e : Int) : cf s 0 e = (false, [], 0) := by unfold cf; rw [if_pos rfl]
theorem cf_ne {n : Nat} (h : n ≠ 0) (s : Bool) (e : Int) : cf s n e = (s, ofN (od n), e + (tz n : Int)) := by unfold cf; rw [if_neg h]
theorem tz_shl {n : Nat} (h : n ≠ 0) (j : Nat) : tz (n * 2 ^ j) = tz n + j ∧ od (n * 2 ^ j) = od n := by
 obtain ⟨t, m, e⟩ := low_form n h
 have e2 : n * 2 ^ j = 2 ^ (t + j) * (2 * m + 1) := by rw [e, Nat.pow_add, Nat.mul_right_comm]
 exact ⟨by rw [tz_eq e2, tz_eq e], by rw [od_eq e2, od_eq e]⟩
theorem cf_shl (s : Bool) (n j : Nat) (e : Int) : cf s (n * 2 ^ j) e = cf s n (e + j) := by
 by_cases h : n = 0
 ·subst h; rw [Nat.zero_mul, cf_zero, cf_zero]
 have h2 : n * 2 ^ j ≠ 0 := Nat.ne_of_gt (Nat.mul_pos (Nat.pos_of_ne_zero h) (Nat.pow_pos (by decide)))
 rw [cf_ne h, cf_ne h2, (tz_shl h j).1, (tz_shl h j).2]
 congr 2
 omega
theorem tz_lt {n : Nat} (h : n ≠ 0) : tz n < bl n := by
 obtain ⟨t, m, e⟩ := low_form n h
 rw [tz_eq e]; exact low_lt e
theorem bl_len {n m : Nat} (h : (ofN n).length ≤ m) : bl n ≤ 64 * m := by
 rw [bl_le_iff]
 have := (ofN_len n m).1 h
 rw [Nat.pow_mul]; exact this
theorem len_od (n : Nat) : (ofN (od n)).length ≤ (ofN n).length := ofN_len_le (od_le n)
theorem Form_eq (s : Bool) (l : List Int) (e : Int) (k : Nat) (hw : Ws l) (hl : l.length < 17592186044000) (h0 : -1000000000000000000 ≤ e) (h1 : e ≤ 1000000000000000000) (hk : 100000000000000000 ≤ k) : raw_Form.f k s l e = some (cf s (val l) e) := by
 unfold raw_Form.f
 have hn : (ofN (val l)).length ≤ l.length := (ofN_len (val l) l.length).2 (val_lt hw)
 rw [trim_eq l k hw (by omega) (by omega), bind_s]
 generalize val l = v at *
 by_cases h : v = 0
 ·subst h
  rw [ofN_zero, cf_zero, if_pos (show ((([] : List Int).length : Nat) : Int) = 0 from rfl)]
 obtain ⟨t, m, e1⟩ := low_form v h
 have hne : (ofN v).length ≠ 0 := fun h' => h (ofN_zero_iff.1 h')
 have q0 : ¬ ((ofN v).length : Int) = 0 := by omega
 have ht := low_lt e1
 have hb := bl_len hn
 have ht2 : t < 4611686018427387904 := by omega
 rw [if_neg q0, ((lLow_eq v k (by omega) (by omega)).2 t m e1), bind_s, lShr_eq _ t k (ws_ofN v) ht2 (by omega) (by omega), bind_s, cf_ne h, val_ofN, tz_eq e1, wrapS (by omega) (by omega)]
 unfold od
 rw [tz_eq e1]
def sg (s : Bool) (n : Nat) : Int := if s then -(n : Int) else (n : Int)
def lowE : Int := -4000000
def Vz (z e : Int) : Int := z * 2 ^ (e - lowE).toNat
noncomputable def cz (z e : Int) : Bool × List Int × Int := cf (decide (z < 0)) z.natAbs e
theorem sg_zero (s : Bool) : sg s 0 = 0 := by cases s <;> rfl
theorem sg_abs (s : Bool) (n : Nat) : (sg s n).natAbs = n := by cases s <;> simp [sg]
theorem sg_neg (s : Bool) (n : Nat) : sg (!s) n = - sg s n := by cases s <;> simp [sg]
theorem sg_add (s : Bool) (n m : Nat) : sg s (n + m) = sg s n + sg s m := by cases s <;> simp [sg] <;> omega
theorem sg_sub (s : Bool) {n m : Nat} (h : m ≤ n) : sg s (n - m) = sg s n + sg (!s) m := by cases s <;> simp [sg] <;> omega
theorem sg_mul (s : Bool) (n m : Nat) : sg s (n * m) = sg s n * (m : Int) := by cases s <;> simp [sg, Int.neg_mul]
theorem pow_int (j : Nat) : ((2 ^ j : Nat) : Int) = (2 : Int) ^ j := by simp
theorem sg_shl (s : Bool) (n j : Nat) : sg s (n * 2 ^ j) = sg s n * 2 ^ j := by rw [sg_mul, pow_int]
theorem sg_neg_iff (s : Bool) {n : Nat} (h : n ≠ 0) : decide (sg s n < 0) = s := by cases s <;> simp [sg] <;> omega
theorem sg_self (z : Int) : sg (decide (z < 0)) z.natAbs = z := by
 unfold sg
 by_cases h : z < 0
 ·rw [if_pos (decide_eq_true h)]; omega
 rw [if_neg (by simpa using h)]; omega
theorem cf_cz (s : Bool) (n : Nat) (e : Int) : cf s n e = cz (sg s n) e := by
 unfold cz
 rw [sg_abs]
 by_cases h : n = 0
 ·subst h; rw [cf_zero, cf_zero]
 rw [sg_neg_iff s h]
theorem pow2_pos (j : Nat) : (0 : Int) < 2 ^ j := by rw [← pow_int]; exact Int.ofNat_lt.2 (Nat.pow_pos (by decide))
theorem mul_pow_neg (z : Int) (j : Nat) : decide (z * 2 ^ j < 0) = decide (z < 0) := by
 rw [decide_eq_decide]
 have := pow2_pos j
 constructor
 ·intro h
  refine Classical.byContradiction fun g => ?_
  have := Int.mul_nonneg (Int.not_lt.1 g) (Int.le_of_lt this)
  omega
 intro h; exact Int.mul_neg_of_neg_of_pos h this
theorem cz_shl (z : Int) (j : Nat) (e : Int) : cz (z * 2 ^ j) e = cz z (e + j) := by
 unfold cz
 rw [mul_pow_neg, Int.natAbs_mul, ← pow_int, Int.natAbs_natCast, cf_shl]
theorem cz_Vz {e : Int} (h : lowE ≤ e) (z : Int) : cz z e = cz (Vz z e) lowE := by
 unfold Vz
 rw [cz_shl]
 congr 1
 omega
theorem Vz_shl {e : Int} (h : lowE ≤ e) (z : Int) (j : Nat) : Vz (z * 2 ^ j) e = Vz z (e + j) := by
 unfold Vz
 rw [show (e + j - lowE).toNat = j + (e - lowE).toNat by omega, Int.pow_add, Int.mul_assoc]
theorem Vz_zero (e : Int) : Vz 0 e = 0 := Int.zero_mul _
theorem Vz_add (a b e : Int) : Vz (a + b) e = Vz a e + Vz b e := Int.add_mul _ _ _
def vl (s : Bool) (l : List Int) (e : Int) : Int := Vz (sg s (val l)) e
theorem cf_vl {e : Int} (h : lowE ≤ e) (s : Bool) (l : List Int) : cf s (val l) e = cz (vl s l e) lowE := by rw [cf_cz, cz_Vz h]; rfl
theorem vl_cf {e : Int} (h : lowE ≤ e) (s : Bool) (n : Nat) : vl (cf s n e).1 (cf s n e).2.1 (cf s n e).2.2 = Vz (sg s n) e := by
 by_cases h0 : n = 0
 ·subst h0; rw [cf_zero, sg_zero, Vz_zero]; unfold vl; rw [val_nil, sg_zero, Vz_zero]
 rw [cf_ne h0]
 show Vz (sg s (val (ofN (od n)))) (e + (tz n : Int)) = _
 rw [val_ofN, ← Vz_shl h, ← sg_shl, od_mul]
theorem vl_cz (Z : Int) : vl (cz Z lowE).1 (cz Z lowE).2.1 (cz Z lowE).2.2 = Z := by
 unfold cz
 rw [vl_cf (Int.le_refl _), sg_self]
 unfold Vz; rw [Int.sub_self]; simp
end Go.Proofs.YtjnfipkbgmdpaaaDoor.Nf

namespace Go.Proofs.YtjnfipkbgmdpaaaDoor.Nf
open Go.RowKit Go.Proofs.YtjnfipkbgmdpaaaDoor.PAll Go.Proofs.YtjnfipkbgmdpaaaDoorW.PrintWords Go.Proofs.YtjnfipkbgmdpaaaDoorW.PrintLast Go.Proofs.YtjnfipkbgmdpaaaDoorW.PrintMore Go.Proofs.YtjnfipkbgmdpaaaDoor.Nm
set_option linter.unusedVariables false
set_option linter.unusedSimpArgs false
theorem len0 {v : Nat} : (((ofN v).length : Nat) : Int) = 0 ↔ v = 0 := by rw [← ofN_zero_iff]; omega
theorem len_shl {a m : Nat} (h : (ofN a).length ≤ m) (j : Nat) : (ofN (a * 2 ^ j)).length ≤ m + j / 64 + 1 := by
 rw [ofN_len] at h ⊢
 have e : 18446744073709551616 ^ (m + j / 64 + 1) = 18446744073709551616 ^ m * 2 ^ (64 * (j / 64 + 1)) := by rw [Nat.add_assoc, Nat.pow_add, Nat.pow_mul]
 rw [e]
 exact Nat.mul_lt_mul_of_lt_of_le h (Nat.pow_le_pow_right (by decide) (by omega)) (Nat.pow_pos (by decide))
theorem wlen_add {a b m : Nat} (ha : (ofN a).length ≤ m) (hb : (ofN b).length ≤ m) : (ofN (a + b)).length ≤ m + 1 := big_add_aux rfl ((ofN_len _ _).1 ha) ((ofN_len _ _).1 hb)
theorem Zero_eq (s : Bool) (l : List Int) (e : Int) (k : Nat) (hw : Ws l) (hl : l.length < 17592186044000) (hk : 100000000000000000 ≤ k) : raw_Zero.f k s l e = some (decide (val l = 0)) := by
 unfold raw_Zero.f
 rw [trim_eq l k hw (by omega) (by omega), bind_s]
 congr 1
 rw [Bool.eq_iff_iff, decide_eq_true_iff, beq_iff_eq, len0]
def fits (n : Nat) (e : Int) : Bool := decide (n < big ∧ -32768 ≤ e ∧ e ≤ 32768)
theorem fits_iff {n : Nat} {e : Int} : fits n e = true ↔ n < big ∧ -32768 ≤ e ∧ e ≤ 32768 := decide_eq_true_iff
theorem fits_hi {n : Nat} {e : Int} (h : n < big) (g : e ≥ -32768) : fits n e = decide (e ≤ 32768) := by
 rw [Bool.eq_iff_iff, fits_iff, decide_eq_true_iff]
 exact ⟨fun c => c.2.2, fun c => ⟨h, g, c⟩⟩
theorem fits_no {n : Nat} {e : Int} (h : ¬ (n < big ∧ -32768 ≤ e ∧ e ≤ 32768)) : fits n e = false := by
 rw [Bool.eq_false_iff]; exact fun c => h (fits_iff.1 c)
theorem len_big' (v : Nat) : (((ofN v).length : Nat) : Int) ≤ 1024 ↔ v < big := by rw [← ofN_big]; omega
theorem Fits_eq (s : Bool) (l : List Int) (e : Int) (k : Nat) (hw : Ws l) (hl : l.length < 17592186044000) (hk : 100000000000000000 ≤ k) : raw_Fits.f k s l e = some (fits (val l) e) := by
 unfold raw_Fits.f
 rw [trim_eq l k hw (by omega) (by omega), bind_s]
 by_cases h : val l < big
 ·rw [if_pos ((len_big' _).2 h)]
  by_cases g : e ≥ -32768
  ·rw [if_pos g, fits_hi h g]
  rw [if_neg g, fits_no (fun c => g c.2.1)]
 rw [if_neg (fun c => h ((len_big' _).1 c))]; rw [fits_no (fun c => h c.1)]
theorem right_eq (s : Bool) (l : List Int) (e : Int) (k : Nat) (hw : Ws l) (hl : l.length < 17592186044000) (hk : 100000000000000000 ≤ k) : dyad_number_right.f k s l e = some (fits (val l) e) := by
 unfold dyad_number_right.f
 rw [Fits_eq s l e k hw hl hk, bind_s]
def roomS (d : Bool × List Int × Int) : Bool × List Int × Int × Int := if fits (val d.2.1) d.2.2 = true then (d.1, d.2.1, d.2.2, 0) else (false, [], 0, 3)
theorem room_eq (s : Bool) (l : List Int) (e : Int) (k : Nat) (hw : Ws l) (hl : l.length < 17592186044000) (hk : 100000000000000000 ≤ k) : dyad_room.f k s l e = some (roomS (s, l, e)) := by
 unfold dyad_room.f roomS
 rw [Fits_eq s l e k hw hl hk, bind_s]
 split <;> rfl
structure Rt (l : List Int) (e : Int) : Prop where
 ws : Ws l
 len : l.length < 17592186044000
 sm : (ofN (val l)).length ≤ 8192
 lo : -1000000 ≤ e
 hi : e ≤ 1000000
theorem Rt.lowE {l : List Int} {e : Int} (h : Rt l e) : Nf.lowE ≤ e := by have := h.lo; unfold Nf.lowE; omega
theorem One_eq (s : Bool) (l : List Int) (e : Int) (k : Nat) (h : Rt l e) (hk : 100000000000000000 ≤ k) : raw_One.f k s l e = some (cf s (val l) e) := by
 unfold raw_One.f
 rw [Form_eq s l e k h.ws h.len (by have := h.lo; omega) (by have := h.hi; omega) hk, bind_s]
theorem mn_eq (a b : Int) : mn a b = min a b := by unfold mn; rw [Int.min_def]; split <;> split <;> omega
theorem sub_nat {a E : Int} (h : E ≤ a) (h1 : a - E < 1000000000000) : wrap64 (a - E) = (((a - E).toNat : Nat) : Int) := by
 rw [wrapS (by omega) (by omega)]; omega
theorem amounts_eq (s1 s2 : Bool) (a b : Nat) (e1 e2 E : Int) (k : Nat) (hE : E = min e1 e2) (ha : (ofN a).length ≤ 8192) (hb : (ofN b).length ≤ 8192) (l1 : -2000000 ≤ e1) (u1 : e1 ≤ 2000000) (l2 : -2000000 ≤ e2) (u2 : e2 ≤ 2000000) (hk : 100000000000000000 ≤ k) :
  raw_amounts.f k s1 (ofN a) e1 s2 (ofN b) e2 = some (ofN (a * 2 ^ (e1 - E).toNat), ofN (b * 2 ^ (e2 - E).toNat), E) := by
 unfold raw_amounts.f
 have h1 : E ≤ e1 := by omega
 have h2 : E ≤ e2 := by omega
 have h3 : (e1 - E).toNat ≤ 4000000 := by omega
 have h4 : (e2 - E).toNat ≤ 4000000 := by omega
 rw [mn_eq, ← hE, sub_nat h1 (by omega), sub_nat h2 (by omega)]
 generalize (e1 - E).toNat = i at *
 generalize (e2 - E).toNat = j at *
 rw [lShl_eq (ofN a) i k (ws_ofN a) (by omega) (by omega) (by omega), bind_s, lShl_eq (ofN b) j k (ws_ofN b) (by omega) (by omega) (by omega), bind_s, val_ofN, val_ofN]
theorem wcmpI_ge {x y : Nat} : cmpI x y ≥ 0 ↔ y ≤ x := by unfold cmpI; split <;> (try split) <;> omega
theorem sum_cz {s1 s2 : Bool} {x y : Nat} {E : Int} (hE : lowE ≤ E) :
  (s1 = s2 → cf s1 (x + y) E = cz (Vz (sg s1 x) E + Vz (sg s2 y) E) lowE) ∧ (s1 ≠ s2 → y ≤ x → cf s1 (x - y) E = cz (Vz (sg s1 x) E + Vz (sg s2 y) E) lowE) ∧ (s1 ≠ s2 → x ≤ y → cf s2 (y - x) E = cz (Vz (sg s1 x) E + Vz (sg s2 y) E) lowE) := by
 refine ⟨?_, ?_, ?_⟩
 ·rintro rfl; rw [cf_cz, cz_Vz hE, sg_add, Vz_add]
 ·intro h g
  have : s2 = !s1 := by cases s1 <;> cases s2 <;> simp_all
  rw [cf_cz, cz_Vz hE, sg_sub _ g, Vz_add, this]
 intro h g
 have : s1 = !s2 := by cases s1 <;> cases s2 <;> simp_all
 rw [cf_cz, cz_Vz hE, sg_sub _ g, Vz_add, this, Int.add_comm]
theorem scale {s : Bool} {o : Nat} {e E : Int} (h : lowE ≤ E) (g : E ≤ e) : Vz (sg s (o * 2 ^ (e - E).toNat)) E = Vz (sg s o) e := by
 rw [sg_shl, Vz_shl h]; congr 1; omega
theorem vl_parts {n : Nat} {e : Int} (h : lowE ≤ e) (s : Bool) : Vz (sg s (od n)) (e + (tz n : Int)) = Vz (sg s n) e := by
 rw [← Vz_shl h, ← sg_shl, od_mul]
theorem tz_small {n : Nat} (h : n ≠ 0) (hl : (ofN n).length ≤ 8192) : (tz n : Int) ≤ 600000 := by
 have := tz_lt h
 have := bl_len hl
 omega
theorem wAdd_eq (s1 s2 : Bool) (l1 l2 : List Int) (e1 e2 : Int) (k : Nat) (h1 : Rt l1 e1) (h2 : Rt l2 e2) (hk : 200000000000000000 ≤ k) : raw_Add.f k s1 l1 e1 s2 l2 e2 = some (cz (vl s1 l1 e1 + vl s2 l2 e2) lowE) := by
 unfold raw_Add.f
 have b1 := h1.lowE
 have b2 := h2.lowE
 have hv1 := h1.sm
 have hv2 := h2.sm
 have d1 := h1.lo; have d2 := h1.hi; have d3 := h2.lo; have d4 := h2.hi
 rw [One_eq s1 l1 e1 k h1 (by omega), bind_s, One_eq s2 l2 e2 k h2 (by omega), bind_s]
 have f1 := cf_vl b1 s1 l1
 have f2 := cf_vl b2 s2 l2
 have v1 : vl s1 l1 e1 = Vz (sg s1 (val l1)) e1 := rfl
 have v2 : vl s2 l2 e2 = Vz (sg s2 (val l2)) e2 := rfl
 generalize val l1 = n1 at *
 generalize val l2 = n2 at *
 by_cases z1 : n1 = 0
 ·have : (cf s1 n1 e1).2.1 = [] := by rw [z1, cf_zero]
  rw [this, Zero_eq _ _ _ k ws_nil (by simp) (by omega), bind_s, if_pos (by rw [val_nil]; rfl), f2, v1, z1, sg_zero, Vz_zero, Int.zero_add]
 have c1 := cf_ne z1 s1 e1
 have o1 := od_ne z1
 rw [c1, Zero_eq _ _ _ k (ws_ofN _) (by have := len_od n1; show (ofN (od n1)).length < _; omega) (by omega), bind_s]
 rw [if_neg (by rw [val_ofN]; simpa using o1)]
 by_cases z2 : n2 = 0
 ·have : (cf s2 n2 e2).2.1 = [] := by rw [z2, cf_zero]
  rw [this, Zero_eq _ _ _ k ws_nil (by simp) (by omega), bind_s, if_pos (by rw [val_nil]; rfl), ← c1, f1, v2, z2, sg_zero, Vz_zero, Int.add_zero]
 have c2 := cf_ne z2 s2 e2
 have o2 := od_ne z2
 rw [c2, Zero_eq _ _ _ k (ws_ofN _) (by have := len_od n2; show (ofN (od n2)).length < _; omega) (by omega), bind_s]
 rw [if_neg (by rw [val_ofN]; simpa using o2)]
 have t1 := tz_small z1 hv1
 have t2 := tz_small z2 hv2
 have p1 := vl_parts b1 s1 (n := n1)
 have p2 := vl_parts b2 s2 (n := n2)
 have q1 := len_od n1
 have q2 := len_od n2
 show raw_Add.j0 k s1 (ofN (od n1)) (e1 + (tz n1 : Int)) s2 (ofN (od n2)) (e2 + (tz n2 : Int)) = _
 have g1 : -2000000 ≤ e1 + (tz n1 : Int) ∧ e1 + (tz n1 : Int) ≤ 2000000 := by omega
 have g2 : -2000000 ≤ e2 + (tz n2 : Int) ∧ e2 + (tz n2 : Int) ≤ 2000000 := by omega
 rw [v1, v2, ← p1, ← p2]
 generalize od n1 = x at *
 generalize od n2 = y at *
 generalize e1 + (tz n1 : Int) = a1 at *
 generalize e2 + (tz n2 : Int) = a2 at *
 obtain ⟨k, rfl⟩ : ∃ m, k = m + 1 := ⟨k - 1, by omega⟩
 obtain ⟨E, hE⟩ : ∃ E, E = min a1 a2 := ⟨_, rfl⟩
 simp only [raw_Add.j0]
 rw [amounts_eq s1 s2 x y a1 a2 E k hE (by omega) (by omega) g1.1 g1.2 g2.1 g2.2 (by omega), bind_s]
 have lE : lowE ≤ E := by have := g1.1; have := g2.1; unfold lowE; omega
 have bE : -2000000 ≤ E ∧ E ≤ 2000000 := by omega
 have w1 : E ≤ a1 := by omega
 have w2 : E ≤ a2 := by omega
 have y1 : (a1 - E).toNat ≤ 4000000 := by omega
 have y2 : (a2 - E).toNat ≤ 4000000 := by omega
 have L1 := len_shl (Nat.le_trans q1 hv1) (a1 - E).toNat
 have L2 := len_shl (Nat.le_trans q2 hv2) (a2 - E).toNat
 have S1 := scale (s := s1) (o := x) lE w1
 have S2 := scale (s := s2) (o := y) lE w2
 have M1 : (ofN (x * 2 ^ (a1 - E).toNat)).length ≤ 100000 := by omega
 have M2 : (ofN (y * 2 ^ (a2 - E).toNat)).length ≤ 100000 := by omega
 generalize x * 2 ^ (a1 - E).toNat = X at *
 generalize y * 2 ^ (a2 - E).toNat = Y at *
 rw [← S1, ← S2]
 obtain ⟨r1, r2, r3⟩ := sum_cz (s1 := s1) (s2 := s2) (x := X) (y := Y) lE
 by_cases hs : s1 = s2
 ·rw [if_pos (by rw [beq_iff_eq]; exact hs), lAdd_eq _ _ (ws_ofN X) (ws_ofN Y) (by omega) (by omega) k (by omega), bind_s, val_ofN, val_ofN]
  have M3 : (ofN (X + Y)).length < 17592186044000 := by
   have := wlen_add M1 M2
   omega
  rw [Form_eq s1 _ E k (ws_ofN _) M3 (by omega) (by omega) (by omega), bind_s, val_ofN, r1 hs]
 rw [if_neg (by rw [beq_iff_eq]; exact hs)]
 obtain ⟨k, rfl⟩ : ∃ m, k = m + 1 := ⟨k - 1, by omega⟩
 simp only [raw_Add.j1]
 rw [lCmp_eq _ _ k (ws_ofN X) (ws_ofN Y) (by omega) (by omega) (by omega), bind_s, val_ofN, val_ofN]
 by_cases g : Y ≤ X
 ·rw [if_pos (wcmpI_ge.2 g), lSub_eq X Y g k (by omega) (by omega), bind_s]
  have M3 : (ofN (X - Y)).length < 17592186044000 := by have := ofN_len_le (Nat.sub_le X Y); omega
  rw [Form_eq s1 _ E k (ws_ofN _) M3 (by omega) (by omega) (by omega), bind_s, val_ofN, r2 hs g]
 have g' : X ≤ Y := by omega
 rw [if_neg (fun c => g (wcmpI_ge.1 c)), lSub_eq Y X g' k (by omega) (by omega), bind_s]
 have M3 : (ofN (Y - X)).length < 17592186044000 := by have := ofN_len_le (Nat.sub_le Y X); omega
 rw [Form_eq s2 _ E k (ws_ofN _) M3 (by omega) (by omega) (by omega), bind_s, val_ofN, r3 hs g']
end Go.Proofs.YtjnfipkbgmdpaaaDoor.Nf

namespace Go.Proofs.YtjnfipkbgmdpaaaDoor.Nf
open Go.RowKit Go.Proofs.YtjnfipkbgmdpaaaDoor.PAll Go.Proofs.YtjnfipkbgmdpaaaDoorW.PrintWords Go.Proofs.YtjnfipkbgmdpaaaDoorW.PrintLast Go.Proofs.YtjnfipkbgmdpaaaDoorW.PrintMore Go.Proofs.YtjnfipkbgmdpaaaDoor.Nm
set_option linter.unusedVariables false
set_option linter.unusedSimpArgs false
structure Rs (l : List Int) (e : Int) : Prop where
 ws : Ws l
 len : l.length < 17592186044000
 sm : (ofN (val l)).length ≤ 2000
 lo : -200000 ≤ e
 hi : e ≤ 200000
theorem Rs.t {l : List Int} {e : Int} (h : Rs l e) : Rt l e := ⟨h.ws, h.len, by have := h.sm; omega, by have := h.lo; omega, by have := h.hi; omega⟩
theorem rs_fits {l : List Int} {e : Int} (hw : Ws l) (hl : l.length < 17592186044000) (h : fits (val l) e = true) : Rs l e := by
 obtain ⟨a, b, c⟩ := fits_iff.1 h
 exact ⟨hw, hl, by have := len_big a; omega, by omega, by omega⟩
theorem sg_mul2 (s1 s2 : Bool) (n m : Nat) : sg (s1 != s2) (n * m) = sg s1 n * sg s2 m := by
 cases s1 <;> cases s2 <;> simp [sg, Int.neg_mul, Int.mul_neg]
def vmul (s1 : Bool) (l1 : List Int) (e1 : Int) (s2 : Bool) (l2 : List Int) (e2 : Int) : Int := Vz (sg s1 (val l1) * sg s2 (val l2)) (e1 + e2)
theorem wlen_mul (n m : Nat) : (ofN (n * m)).length ≤ (ofN n).length + (ofN m).length := by
 rw [ofN_len, Nat.pow_add]
 have a := (ofN_len n _).1 (Nat.le_refl _)
 have b := (ofN_len m _).1 (Nat.le_refl _)
 exact Nat.mul_lt_mul_of_lt_of_le a (Nat.le_of_lt b) (pow_pos _)
theorem lowE_add {a b : Int} (ha : -1000000 ≤ a) (hb : -1000000 ≤ b) : lowE ≤ a + b := by unfold lowE; omega
theorem Mul_eq' (s1 s2 : Bool) (l1 l2 : List Int) (e1 e2 : Int) (k : Nat) (h1 : Rt l1 e1) (h2 : Rt l2 e2) (hk : 100000000000000000 ≤ k) : raw_Mul.f k s1 l1 e1 s2 l2 e2 = some (cz (vmul s1 l1 e1 s2 l2 e2) lowE) := by
 unfold raw_Mul.f vmul
 have a1 := h1.sm; have a2 := h2.sm; have b1 := h1.lo; have b2 := h2.lo; have c1 := h1.hi; have c2 := h2.hi; have n1 := h1.len; have n2 := h2.len
 have hm := wlen_mul (val l1) (val l2)
 have hp : (ofN (val l1)).length * ((ofN (val l2)).length + 2) ≤ 8192 * 8194 := Nat.mul_le_mul a1 (by omega)
 rw [lMul_eq l1 l2 k h1.ws h2.ws n1 n2 (by omega) (by omega), bind_s, wrapS (by omega) (by omega), Form_eq _ _ _ k (ws_ofN _) (by omega) (by omega) (by omega) hk, bind_s, val_ofN, cf_cz, cz_Vz (lowE_add b1 b2), sg_mul2]
end Go.Proofs.YtjnfipkbgmdpaaaDoor.Nf

namespace Go.Proofs.YtjnfipkbgmdpaaaDoor.Nf
open Go.RowKit Go.Proofs.YtjnfipkbgmdpaaaDoor.PAll Go.Proofs.YtjnfipkbgmdpaaaDoorW.PrintWords Go.Proofs.YtjnfipkbgmdpaaaDoorW.PrintLast Go.Proofs.YtjnfipkbgmdpaaaDoorW.PrintMore Go.Proofs.YtjnfipkbgmdpaaaDoor.Nm
set_option linter.unusedVariables false
set_option linter.unusedSimpArgs false
def am (n : Nat) (e : Int) : Nat := n * 2 ^ (e - lowE).toNat
theorem Vz_am (s : Bool) (n : Nat) (e : Int) : Vz (sg s n) e = sg s (am n e) := by unfold Vz am; rw [sg_shl]
theorem am_pos {n : Nat} (h : n ≠ 0) (e : Int) : am n e ≠ 0 := Nat.ne_of_gt (Nat.mul_pos (Nat.pos_of_ne_zero h) (Nat.pow_pos (by decide)))
theorem am_bl {n : Nat} (h : n ≠ 0) {e : Int} (g : lowE ≤ e) : (bl (am n e) : Int) = bl n + (e - lowE) := by
 unfold am; rw [bl_shl h]; omega
end Go.Proofs.YtjnfipkbgmdpaaaDoor.Nf

namespace Go.Proofs.YtjnfipkbgmdpaaaDoor.Nf
open Go.RowKit Go.Proofs.YtjnfipkbgmdpaaaDoor.PAll Go.Proofs.YtjnfipkbgmdpaaaDoorW.PrintWords Go.Proofs.YtjnfipkbgmdpaaaDoorW.PrintLast Go.Proofs.YtjnfipkbgmdpaaaDoorW.PrintMore Go.Proofs.YtjnfipkbgmdpaaaDoor.Nm
set_option linter.unusedVariables false
set_option linter.unusedSimpArgs false
theorem od_zero : od 0 = 0 := by unfold od; rw [Nat.zero_div]
end Go.Proofs.YtjnfipkbgmdpaaaDoor.Nf

namespace Go.Proofs.YtjnfipkbgmdpaaaDoor.Nf
open Go.RowKit Go.Proofs.YtjnfipkbgmdpaaaDoor.PAll Go.Proofs.YtjnfipkbgmdpaaaDoorW.PrintWords Go.Proofs.YtjnfipkbgmdpaaaDoorW.PrintLast Go.Proofs.YtjnfipkbgmdpaaaDoorW.PrintMore Go.Proofs.YtjnfipkbgmdpaaaDoor.Nm
set_option linter.unusedVariables false
set_option linter.unusedSimpArgs false
structure Wl (l : List Int) : Prop where
 ws : Ws l
 len : l.length < 17592186044000
theorem wl_nil : Wl [] := ⟨ws_nil, by simp⟩
theorem wl_ofN {v : Nat} (h : (ofN v).length < 17592186044000) : Wl (ofN v) := ⟨ws_ofN v, h⟩
theorem wl_cf (s : Bool) {n : Nat} (e : Int) (h : (ofN n).length < 17592186044000) : Wl (cf s n e).2.1 := by
 by_cases z : n = 0
 ·rw [z, cf_zero]; exact wl_nil
 rw [cf_ne z]; exact wl_ofN (Nat.lt_of_le_of_lt (len_od n) h)
theorem wl_cz {Z : Int} (e : Int) (h : (ofN Z.natAbs).length < 17592186044000) : Wl (cz Z e).2.1 := wl_cf _ _ h
theorem Rs.wl {l : List Int} {e : Int} (h : Rs l e) : Wl l := ⟨h.ws, h.len⟩
theorem Rt.wl {l : List Int} {e : Int} (h : Rt l e) : Wl l := ⟨h.ws, h.len⟩
def bad (c : Int) : Bool × List Int × Int × Int := (false, [], 0, c)
theorem am_len {n : Nat} {e : Int} (h : (ofN n).length ≤ 16384) (h1 : e ≤ 2000000) : (ofN (am n e)).length ≤ 120000 := by
 refine Nat.le_trans (len_shl h _) ?_
 have : (e - lowE).toNat ≤ 6000000 := by unfold lowE; omega
 omega
theorem vl_abs (s : Bool) (l : List Int) (e : Int) : (vl s l e).natAbs = am (val l) e := by unfold vl; rw [Vz_am, sg_abs]
theorem len_vadd {s1 s2 : Bool} {l1 l2 : List Int} {e1 e2 : Int} (h1 : Rt l1 e1) (h2 : Rt l2 e2) : (ofN (vl s1 l1 e1 + vl s2 l2 e2).natAbs).length ≤ 120001 := by
 have a := am_len (n := val l1) (e := e1) (by have := h1.sm; omega) (by have := h1.hi; omega)
 have b := am_len (n := val l2) (e := e2) (by have := h2.sm; omega) (by have := h2.hi; omega)
 have c : (vl s1 l1 e1 + vl s2 l2 e2).natAbs ≤ am (val l1) e1 + am (val l2) e2 := by
  have := Int.natAbs_add_le (vl s1 l1 e1) (vl s2 l2 e2)
  rwa [vl_abs, vl_abs] at this
 exact Nat.le_trans (ofN_len_le c) (wlen_add a b)
theorem len_vmul {s1 s2 : Bool} {l1 l2 : List Int} {e1 e2 : Int} (h1 : Rt l1 e1) (h2 : Rt l2 e2) : (ofN (vmul s1 l1 e1 s2 l2 e2).natAbs).length ≤ 120000 := by
 unfold vmul
 rw [← sg_mul2, Vz_am, sg_abs]
 have a := h1.sm; have b := h2.sm; have c := h1.hi; have d := h2.hi
 exact am_len (Nat.le_trans (wlen_mul _ _) (by omega)) (by omega)
noncomputable def twoS (Z : Int) (n1 : Nat) (e1 : Int) (n2 : Nat) (e2 : Int) : Bool × List Int × Int × Int := if fits n1 e1 = true ∧ fits n2 e2 = true then roomS (cz Z lowE) else bad 2
theorem dAdd_eq (s1 s2 : Bool) (l1 l2 : List Int) (e1 e2 : Int) (k : Nat) (w1 : Wl l1) (w2 : Wl l2) (hk : 200000000000000000 ≤ k) : dyad_Add.f k s1 l1 e1 s2 l2 e2 = some (twoS (vl s1 l1 e1 + vl s2 l2 e2) (val l1) e1 (val l2) e2) := by
 unfold dyad_Add.f twoS
 rw [right_eq s1 l1 e1 k w1.ws w1.len (by omega), bind_s]
 by_cases h1 : fits (val l1) e1 = true
 ·rw [if_pos h1, right_eq s2 l2 e2 k w2.ws w2.len (by omega), bind_s]
  by_cases h2 : fits (val l2) e2 = true
  ·have g1 := rs_fits w1.ws w1.len h1
   have g2 := rs_fits w2.ws w2.len h2
   have c := wl_cz lowE (Nat.lt_of_le_of_lt (len_vadd (s1 := s1) (s2 := s2) g1.t g2.t) (by decide))
   rw [if_pos h2, if_pos ⟨h1, h2⟩, wAdd_eq s1 s2 l1 l2 e1 e2 k g1.t g2.t hk, bind_s, room_eq _ _ _ k c.ws c.len (by omega), bind_s]
  rw [if_neg h2, if_neg (fun c => h2 c.2)]; rfl
 rw [if_neg h1, if_neg (fun c => h1 c.1)]; rfl
theorem dMul_eq (s1 s2 : Bool) (l1 l2 : List Int) (e1 e2 : Int) (k : Nat) (w1 : Wl l1) (w2 : Wl l2) (hk : 200000000000000000 ≤ k) : dyad_Mul.f k s1 l1 e1 s2 l2 e2 = some (twoS (vmul s1 l1 e1 s2 l2 e2) (val l1) e1 (val l2) e2) := by
 unfold dyad_Mul.f twoS
 rw [right_eq s1 l1 e1 k w1.ws w1.len (by omega), bind_s]
 by_cases h1 : fits (val l1) e1 = true
 ·rw [if_pos h1, right_eq s2 l2 e2 k w2.ws w2.len (by omega), bind_s]
  by_cases h2 : fits (val l2) e2 = true
  ·have g1 := rs_fits w1.ws w1.len h1
   have g2 := rs_fits w2.ws w2.len h2
   have c := wl_cz lowE (Nat.lt_of_le_of_lt (len_vmul (s1 := s1) (s2 := s2) g1.t g2.t) (by decide))
   rw [if_pos h2, if_pos ⟨h1, h2⟩, Mul_eq' s1 s2 l1 l2 e1 e2 k g1.t g2.t (by omega), bind_s, room_eq _ _ _ k c.ws c.len (by omega), bind_s]
  rw [if_neg h2, if_neg (fun c => h2 c.2)]; rfl
 rw [if_neg h1, if_neg (fun c => h1 c.1)]; rfl
theorem bl_od (n : Nat) : bl n = bl (od n) + tz n := by
 by_cases h : n = 0
 ·subst h; rw [od_zero, bl_zero]; unfold tz; rw [dif_neg (by simp)]
 have := bl_shl (od_ne h) (tz n)
 rwa [od_mul] at this
end Go.Proofs.YtjnfipkbgmdpaaaDoor.Nf

namespace Go.Proofs.YtjnfipkbgmdpaaaDoor.Nf
open Go.RowKit Go.Proofs.YtjnfipkbgmdpaaaDoor.PAll Go.Proofs.YtjnfipkbgmdpaaaDoorW.PrintWords Go.Proofs.YtjnfipkbgmdpaaaDoorW.PrintLast Go.Proofs.YtjnfipkbgmdpaaaDoorW.PrintMore Go.Proofs.YtjnfipkbgmdpaaaDoor.Nm
set_option linter.unusedVariables false
set_option linter.unusedSimpArgs false
theorem len_word {v : Nat} (h : v < 18446744073709551616) : (ofN v).length ≤ 1 := (ofN_len v 1).2 (by rw [Nat.pow_one]; exact h)
theorem room_fits {d : Bool × List Int × Int} (h : fits (val d.2.1) d.2.2 = true) : roomS d = (d.1, d.2.1, d.2.2, 0) := by unfold roomS; exact if_pos h
end Go.Proofs.YtjnfipkbgmdpaaaDoor.Nf

namespace Go.Proofs.YtjnfipkbgmdpaaaDoor.Nf
open Go.RowKit Go.Proofs.YtjnfipkbgmdpaaaDoor.PAll Go.Proofs.YtjnfipkbgmdpaaaDoorW.PrintWords Go.Proofs.YtjnfipkbgmdpaaaDoorW.PrintLast Go.Proofs.YtjnfipkbgmdpaaaDoorW.PrintMore Go.Proofs.YtjnfipkbgmdpaaaDoor.Nm
set_option linter.unusedVariables false
set_option linter.unusedSimpArgs false
theorem val_cf (s : Bool) (n : Nat) (e : Int) : val (cf s n e).2.1 = od n := by
 by_cases h : n = 0
 ·rw [h, cf_zero, od_zero]; rfl
 rw [cf_ne h]; exact val_ofN _
end Go.Proofs.YtjnfipkbgmdpaaaDoor.Nf

namespace Go.Proofs.YtjnfipkbgmdpaaaDoor.Nf
open Go.RowKit Go.Proofs.YtjnfipkbgmdpaaaDoor.PAll Go.Proofs.YtjnfipkbgmdpaaaDoorW.PrintWords Go.Proofs.YtjnfipkbgmdpaaaDoorW.PrintLast Go.Proofs.YtjnfipkbgmdpaaaDoorW.PrintMore Go.Proofs.YtjnfipkbgmdpaaaDoor.Nm
set_option linter.unusedVariables false
set_option linter.unusedSimpArgs false
def fneg (x : Int) : Bool := decide (9223372036854775808 ≤ x)
noncomputable def fromS (x : Int) : Bool × List Int × Int × Int :=
 if Nb.isFin x then ((cf (fneg x) (Nb.mant x).toNat (Nb.expo x)).1, (cf (fneg x) (Nb.mant x).toNat (Nb.expo x)).2.1, (cf (fneg x) (Nb.mant x).toNat (Nb.expo x)).2.2, 0) else (false, [], 0, 5)
theorem w64_div {x : Int} (h : Nb.W64 x) : Nb.W64 (x / 4503599627370496) := by
 obtain ⟨a, b⟩ := h; unfold Nb.W64; omega
theorem sign_bit {x : Int} (h : Nb.W64 x) : (x / 9223372036854775808 == 1) = fneg x := by
 obtain ⟨a, b⟩ := h
 unfold fneg
 rw [Bool.eq_iff_iff, beq_iff_eq, decide_eq_true_iff]; omega
theorem ws_one {v : Int} (h0 : 0 ≤ v) (h1 : v < 18446744073709551616) : Ws [v] := ws_cons.2 ⟨⟨h0, h1⟩, ws_nil⟩
theorem val_one (v : Int) : val [v] = v.toNat := by rw [val_cons, val_nil, Nat.mul_zero, Nat.add_zero]
theorem len_one (v : Int) : [v].length < 17592186044000 := by show 1 < 17592186044000; omega
theorem dFrom_eq (x : Int) (k : Nat) (hx : Nb.W64 x) (hk : 100000000000000000 ≤ k) : dyad_From.f k x = some (fromS x) := by
 unfold dyad_From.f fromS
 have hb := Nb.ex_bd hx
 have hf := Nb.fr_bd hx
 have hi := Nb.isFin_iff hx
 have e0 : wrap64 (Go.bits .and .u64 (x / 4503599627370496) 2047) = Nb.ex x := by
  rw [Nb.and_2047 (w64_div hx)]
  exact wrapS (by unfold Nb.ex at hb; omega) (by unfold Nb.ex at hb; omega)
 rw [e0, sign_bit hx, Nb.and_frac hx]
 have ef : x % 4503599627370496 = Nb.fr x := rfl
 rw [ef]
 by_cases h : Nb.ex x = 2047
 ·rw [if_pos h, if_neg (fun c => by have := hi.1 c; omega)]
 rw [if_neg h, if_pos (hi.2 (by omega))]
 by_cases z : Nb.ex x = 0
 ·have m : Nb.mant x = Nb.fr x := by unfold Nb.mant; exact if_pos z
  have p : Nb.expo x = -1074 := by unfold Nb.expo; exact if_pos z
  rw [if_pos z, Form_eq _ _ _ k (ws_one hf.1 (by omega)) (len_one _) (by decide) (by decide) hk, bind_s, val_one, m, p]; rfl
 have m : Nb.mant x = Nb.fr x + 4503599627370496 := by unfold Nb.mant; exact if_neg z
 have p : Nb.expo x = Nb.ex x - 1075 := by unfold Nb.expo; exact if_neg z
 rw [if_neg z, Nb.or_one52 hf.1 hf.2, wrapS (by omega) (by omega), Form_eq _ _ _ k (ws_one (by omega) (by omega)) (len_one _) (by omega) (by omega) hk, bind_s, val_one, m, p]
def sX (s : Bool) : Int := if s = true then 9223372036854775808 else 0
theorem ofN_word {o : Nat} (h0 : o ≠ 0) (h : o < 18446744073709551616) : ofN o = [(o : Int)] := by
 rw [ofN_pos h0, Nat.mod_eq_of_lt h, Nat.div_eq_of_lt h, ofN_zero]
theorem bl_range {o : Nat} (h : o ≠ 0) : 2 ^ (bl o - 1) ≤ o ∧ o < 2 ^ bl o ∧ 1 ≤ bl o := by
 have a := bl_le h
 have b := bl_lt o
 have c : 1 ≤ bl o := Nat.pos_of_ne_zero (bl_ne h)
 refine ⟨?_, b, c⟩
 rw [show bl o = bl o - 1 + 1 by omega, Nat.pow_succ] at a
 omega
end Go.Proofs.YtjnfipkbgmdpaaaDoor.Nf

namespace Go.Proofs.YtjnfipkbgmdpaaaDoor.Nf
open Go.RowKit Go.Proofs.YtjnfipkbgmdpaaaDoor.PAll Go.Proofs.YtjnfipkbgmdpaaaDoorW.PrintWords Go.Proofs.YtjnfipkbgmdpaaaDoorW.PrintLast Go.Proofs.YtjnfipkbgmdpaaaDoorW.PrintMore Go.Proofs.YtjnfipkbgmdpaaaDoor.Nm
set_option linter.unusedVariables false
set_option linter.unusedSimpArgs false
theorem word_big {v : Nat} (h : v < 18446744073709551616) : v < big := by
 rw [← ofN_big]
 have := len_word h
 omega
theorem mant_parts {x : Int} (hx : Nb.W64 x) : 0 ≤ Nb.ex x ∧ Nb.ex x ≤ 2047 ∧ 0 ≤ Nb.fr x ∧ Nb.fr x < 4503599627370496 ∧ x % 9223372036854775808 = Nb.ex x * 4503599627370496 + Nb.fr x ∧ x = Nb.ex x * 4503599627370496 + Nb.fr x + sX (fneg x) := by
 obtain ⟨a, b⟩ := hx
 have s : sX (fneg x) = if 9223372036854775808 ≤ x then 9223372036854775808 else 0 := by
  unfold sX fneg
  by_cases h : 9223372036854775808 ≤ x
  ·rw [if_pos (decide_eq_true h), if_pos h]
  rw [if_neg (by rw [decide_eq_true_iff]; exact h), if_neg h]
 rw [s]
 unfold Nb.ex Nb.fr
 split <;> omega
theorem from_fits {x : Int} (hx : Nb.W64 x) (h : Nb.isFin x) : fits (val (fromS x).2.1) (fromS x).2.2.1 = true := by
 unfold fromS
 rw [if_pos h]
 have p := Nb.expo_bd hx h
 have m := Nb.mant_bd hx
 show fits (val (cf (fneg x) (Nb.mant x).toNat (Nb.expo x)).2.1) (cf (fneg x) (Nb.mant x).toNat (Nb.expo x)).2.2 = true
 rw [val_cf]
 refine fits_iff.2 ⟨word_big (Nat.lt_of_le_of_lt (od_le _) (by omega)), ?_⟩
 by_cases z : (Nb.mant x).toNat = 0
 ·rw [z, cf_zero]; exact ⟨by show (-32768 : Int) ≤ 0; omega, by show (0 : Int) ≤ 32768; omega⟩
 rw [cf_ne z]
 have t := tz_lt z
 have b : bl (Nb.mant x).toNat ≤ 53 := bl_le_iff.2 (by show _ < 9007199254740992; omega)
 exact ⟨by show -32768 ≤ Nb.expo x + (tz (Nb.mant x).toNat : Int); omega, by show Nb.expo x + (tz (Nb.mant x).toNat : Int) ≤ 32768; omega⟩
theorem amt_eq {x y : Int} (hx : Nb.W64 x) (hy : Nb.W64 y) (h : x % 9223372036854775808 = y % 9223372036854775808) : Nb.mant x = Nb.mant y ∧ Nb.expo x = Nb.expo y := by
 have e : Nb.ex x = Nb.ex y := by unfold Nb.ex; omega
 have f : Nb.fr x = Nb.fr y := by unfold Nb.fr; omega
 unfold Nb.mant Nb.expo
 rw [e, f]; exact ⟨rfl, rfl⟩
theorem mant_zero {x : Int} (hx : Nb.W64 x) : Nb.mant x = 0 ↔ x % 9223372036854775808 = 0 := by
 obtain ⟨a1, a2, a3, a4, a5, a6⟩ := mant_parts hx
 unfold Nb.mant
 by_cases q : Nb.ex x = 0
 ·rw [if_pos q]; omega
 rw [if_neg q]; omega
end Go.Proofs.YtjnfipkbgmdpaaaDoor.Nf

namespace Go.Proofs.YtjnfipkbgmdpaaaDoor.Nf
open Go.RowKit Go.Proofs.YtjnfipkbgmdpaaaDoor.PAll Go.Proofs.YtjnfipkbgmdpaaaDoorW.PrintWords Go.Proofs.YtjnfipkbgmdpaaaDoorW.PrintLast Go.Proofs.YtjnfipkbgmdpaaaDoorW.PrintMore Go.Proofs.YtjnfipkbgmdpaaaDoor.Nm
set_option linter.unusedVariables false
set_option linter.unusedSimpArgs false
def rndI (v : Nat) (e E : Int) : Nat := if E ≤ e then v * 2 ^ (e - E).toNat else rnd v (E - e).toNat
def lostI (v : Nat) (e E : Int) : Bool := if E ≤ e then false else decide (v % 2 ^ (E - e).toNat ≠ 0)
theorem word_ofN {v : Nat} (h : v < 18446744073709551616) : round_word.f (ofN v) = some (v : Int) := by
 unfold round_word.f
 by_cases h0 : v = 0
 ·subst h0; rw [ofN_zero]; rfl
 rw [ofN_word h0 h]; rfl
theorem pow_le_of {v n m : Nat} (h : bl v ≤ n + m) : v / 2 ^ n < 2 ^ m := by
 rw [Nat.div_lt_iff_lt_mul (Nat.pow_pos (by decide)), ← Nat.pow_add, Nat.add_comm m n]
 exact Nat.lt_of_lt_of_le (bl_lt v) (Nat.pow_le_pow_right (by decide) h)
theorem pow_le_mul {v n m : Nat} (h : bl v + n ≤ m) : v * 2 ^ n < 2 ^ m := by
 by_cases h0 : v = 0
 ·subst h0; rw [Nat.zero_mul]; exact Nat.pow_pos (by decide)
 have := bl_lt (v * 2 ^ n)
 rw [bl_shl h0] at this
 exact Nat.lt_of_lt_of_le this (Nat.pow_le_pow_right (by decide) h)
theorem p54 : (2 : Nat) ^ 54 = 18014398509481984 := by decide
theorem rnd_lt {v n m : Nat} (hn : 1 ≤ n) (h : bl v ≤ n + m) : rnd v n ≤ 2 ^ m := by
 refine rnd_le hn ?_
 rw [← Nat.pow_add, Nat.add_comm m n]
 exact Nat.le_of_lt (Nat.lt_of_lt_of_le (bl_lt v) (Nat.pow_le_pow_right (by decide) h))
theorem rndI_le {v : Nat} {e E : Int} {m : Nat} (h : (bl v : Int) + e - E ≤ m) : rndI v e E ≤ 2 ^ m := by
 unfold rndI
 split
 ·exact Nat.le_of_lt (pow_le_mul (by omega))
 exact rnd_lt (by omega) (by omega)
theorem up1 {q : Nat} (h : q < 18014398509481984) : IntKind.u64.wrap ((q : Int) + 1) = ((q + 1 : Nat) : Int) := by rw [IntKind.wrap_u64]; omega
theorem at_eq (v : Nat) (e E : Int) (k : Nat) (hv : v < big) (e0 : -300000 ≤ e) (e1 : e ≤ 300000) (h0 : -300000 ≤ E) (h1 : E ≤ 300000) (hT : (bl v : Int) + e - E ≤ 54) (hk : 100000000 ≤ k) :
  round_amount_at.f k (ofN v) e E = some (((rndI v e E : Nat) : Int), lostI v e E) := by
 have len : (ofN v).length < 17592186044000 := by have := len_big hv; omega
 have len2 := len_big hv
 unfold round_amount_at.f rndI lostI
 by_cases c : E ≤ e
 ·have n0 : wrap64 (e - E) = (((e - E).toNat : Nat) : Int) := sub_nat c (by omega)
  rw [if_pos (show e ≥ E from c), if_pos c, if_pos c, n0, Shl_eq (ofN v) _ k (ws_ofN v) len (by omega), val_ofN, bind_s]
  have hb : bl v + (e - E).toNat ≤ 54 := by omega
  generalize (e - E).toNat = n at hb ⊢
  have hs : (shlS v (n : Int)).1 = ofN (v * 2 ^ n) := by
   unfold shlS
   rw [if_pos hv, if_neg (by omega)]
   by_cases z : v = 0
   ·rw [if_pos z, z, Nat.zero_mul, ofN_zero]
   rw [if_neg z, Int.toNat_natCast, if_pos (by omega)]
  rw [hs, word_ofN (by have := pow_le_mul hb; rw [p54] at this; omega), bind_s]
 have n0 : wrap64 (E - e) = (((E - e).toNat : Nat) : Int) := sub_nat (by omega) (by omega)
 rw [if_neg (show ¬ e ≥ E from c), if_neg c, if_neg c, n0]
 have n1 : 1 ≤ (E - e).toNat := by omega
 have hb : bl v ≤ (E - e).toNat + 54 := by omega
 have nl : (E - e).toNat ≤ 600000 := by omega
 generalize (E - e).toNat = n at n1 hb nl ⊢
 have n2 : wrap64 ((n : Int) - 1) = ((n - 1 : Nat) : Int) := by unfold wrap64; omega
 rw [n2, Shr_eq (ofN v) _ k (ws_ofN v) (by omega) len (by omega), val_ofN, bind_s]
 have hs : shrS v (n : Int) = (ofN (v / 2 ^ n), decide (v % 2 ^ n ≠ 0), 0) := by
  unfold shrS
  rw [if_pos hv, if_neg (by omega), Int.toNat_natCast]
 have hq : v / 2 ^ n < 18014398509481984 := by have := pow_le_of hb; rw [p54] at this; exact this
 rw [hs]
 show (round_word.f (ofN (v / 2 ^ n))).bind _ = _
 rw [word_ofN (by omega), bind_s, Bit_eq (ofN v) _ k (ws_ofN v) (by omega) len (by omega), val_ofN, if_pos hv, if_neg (by omega), Int.toNat_natCast, bind_s]
 obtain ⟨a1, a2, a3⟩ := Low_eq (ofN v) k (ws_ofN v) len (by omega)
 rw [val_ofN] at a2 a3
 have low : ∃ t : Int, nat_Low.f k (ofN v) = some (t, 0) ∧ (v ≠ 0 → (t < ((n - 1 : Nat) : Int) ↔ v % 2 ^ (n - 1) ≠ 0)) := by
  by_cases z : v = 0
  ·exact ⟨0, a2 z, fun c => absurd z c⟩
  obtain ⟨t, m, e⟩ := low_form v z
  refine ⟨(t : Int), a3 hv t m e, fun _ => ?_⟩
  rw [e, low_mod_ne]; omega
 obtain ⟨t, l1, l2⟩ := low
 rw [l1, bind_s]
 show (if decide (v / 2 ^ (n - 1) % 2 = 1) = true then _ else _) = _
 unfold rnd
 by_cases h : v / 2 ^ (n - 1) % 2 = 1
 ·have z : v ≠ 0 := by rintro rfl; rw [Nat.zero_div] at h; exact absurd h (by decide)
  rw [if_pos (decide_eq_true h)]
  show (if t < ((n - 1 : Nat) : Int) then _ else _) = _
  have w1 : IntKind.u64.wrap (((v / 2 ^ n : Nat) : Int) + 1) = ((v / 2 ^ n + 1 : Nat) : Int) := up1 hq
  by_cases s : v % 2 ^ (n - 1) ≠ 0
  ·rw [if_pos ((l2 z).2 s), if_pos ⟨h, .inl s⟩, w1]
  rw [if_neg (fun c => s ((l2 z).1 c))]
  have ad := and1 (w := v / 2 ^ n) (by omega)
  by_cases o : v / 2 ^ n % 2 = 1
  ·rw [if_pos (by rw [ad, o]; rfl), if_pos ⟨h, .inr o⟩, w1]
  rw [if_neg (by rw [ad]; omega), if_neg (fun c => c.2.elim s o), Nat.add_zero]
 rw [if_neg (by rw [decide_eq_true_iff]; exact h), if_neg (fun c => h c.1), Nat.add_zero]
theorem zero_eq (v : Nat) (e : Int) : round_amount_zero.f (ofN v) e = some (decide (v = 0)) := by
 unfold round_amount_zero.f
 congr 1
 rw [Bool.eq_iff_iff, decide_eq_true_iff, beq_iff_eq, len0]
def topI (v : Nat) (e : Int) : Int := (bl v : Int) + e
theorem top_eq (v : Nat) (e : Int) (k : Nat) (hv : v < big) (e0 : -300000 ≤ e) (e1 : e ≤ 300000) (hk : 100000000 ≤ k) : round_amount_top.f k (ofN v) e = some (topI v e) := by
 have len := len_big hv
 unfold round_amount_top.f topI
 rw [Len_eq (ofN v) k (ws_ofN v) (by omega) (by omega), val_ofN, if_pos hv, bind_s]
 have := big_lt_iff.1 hv
 show some (wrap64 ((bl v : Int) + e)) = _
 rw [show wrap64 ((bl v : Int) + e) = (bl v : Int) + e by unfold wrap64; omega]
def expI (v : Nat) (e : Int) : Int := max (topI v e - 53) (-1074)
def INFc : Int := 9218868437227405312
def codeI (v : Nat) (e : Int) : Int := (expI v e + 1074) * 4503599627370496 + (rndI v e (expI v e) : Int)
def mbI (v : Nat) (e : Int) : Int := if v = 0 then 0 else if 1024 < topI v e then INFc else if topI v e < -1074 then 0 else min INFc (codeI v e)
def lsI (v : Nat) (e : Int) : Bool := if v = 0 then false else if 1024 < topI v e then true else if topI v e < -1074 then true else decide (INFc ≤ codeI v e) || lostI v e (expI v e)
def tinyI (v : Nat) (e : Int) : Bool := if v = 0 then false else if topI v e = -1022 then decide (rndI v e (-1075) < 9007199254740992) else decide (topI v e < -1022)
theorem dec_cast (n : Nat) : decide ((n : Int) < 9007199254740992) = decide (n < 9007199254740992) := by
 rw [Bool.eq_iff_iff, decide_eq_true_iff, decide_eq_true_iff]; omega
theorem tiny_eq (v : Nat) (e : Int) (k : Nat) (hv : v < big) (e0 : -300000 ≤ e) (e1 : e ≤ 300000) (hk : 100000000 ≤ k) : round_amount_tiny.f k (ofN v) e = some (tinyI v e) := by
 unfold round_amount_tiny.f tinyI
 rw [zero_eq, bind_s]
 by_cases z : v = 0
 ·rw [if_pos (decide_eq_true z), if_pos z]
 rw [if_neg (by rw [decide_eq_true_iff]; exact z), if_neg z, top_eq v e k hv e0 e1 hk, bind_s]
 by_cases c : topI v e = -1022
 ·rw [if_pos c, if_pos c, c, show wrap64 (-1022 - 53) = -1075 by unfold wrap64; omega, at_eq v e (-1075) k hv e0 e1 (by omega) (by omega) (by unfold topI at c; omega) hk, bind_s]
  exact congrArg some (dec_cast _)
 rw [if_neg c, if_neg c]
theorem rndI_ge {v : Nat} {e : Int} (z : v ≠ 0) : 4503599627370496 ≤ rndI v e (topI v e - 53) := by
 have b := bl_range z
 unfold rndI topI
 rw [show (4503599627370496 : Nat) = 2 ^ 52 by decide]
 split
 ·have hb : bl v ≤ 53 := by omega
  rw [show (e - ((bl v : Int) + e - 53)).toNat = 53 - bl v by omega]
  refine Nat.le_trans ?_ (Nat.mul_le_mul_right _ b.1)
  rw [← Nat.pow_add]; exact Nat.pow_le_pow_right (by decide) (by omega)
 rw [show ((bl v : Int) + e - 53 - e).toNat = bl v - 53 by omega]
 refine rnd_ge ?_
 rw [← Nat.pow_add, show 52 + (bl v - 53) = bl v - 1 by omega]
 exact b.1
theorem put_w {E : Int} {q : Nat} (h0 : -1074 ≤ E) (h1 : E ≤ 971) (q0 : 4503599627370496 ≤ q) (q1 : q ≤ 9007199254740992) :
  IntKind.u64.wrap ((IntKind.u64.wrap ((IntKind.u64.wrap ((IntKind.u64.wrap (wrap64 (E + 1075))) * 4503599627370496)) + (q : Int))) - 4503599627370496) = (E + 1074) * 4503599627370496 + (q : Int) := by
 rw [show wrap64 (E + 1075) = E + 1075 by unfold wrap64; omega, Nb.wrapU (x := E + 1075) (by omega) (by omega), Nb.wrapU (x := (E + 1075) * 4503599627370496) (by omega) (by omega), Nb.wrapU (x := (E + 1075) * 4503599627370496 + q) (by omega) (by omega), Nb.wrapU (by omega) (by omega)]
 omega
theorem nj0 (k : Nat) (E q : Int) (l : Bool) : round_amount_nearest.j0 (k + 1) E q l = if q < 4503599627370496 then some (q, l) else if E > 971 then some (INFc, true) else some (IntKind.u64.wrap ((IntKind.u64.wrap ((IntKind.u64.wrap ((IntKind.u64.wrap (wrap64 (E + 1075))) * 4503599627370496)) + q)) - 4503599627370496), l) := rfl
theorem nearest_j0 (k : Nat) (E : Int) (q : Nat) (l : Bool) (h0 : -1074 ≤ E) (h1 : E ≤ 300000) (hq : q ≤ 9007199254740992) (hs : q < 4503599627370496 → E = -1074) :
  round_amount_nearest.j0 (k + 1) (if (q : Int) = 9007199254740992 then E + 1 else E) (if (q : Int) = 9007199254740992 then (q : Int) / 2 else (q : Int)) l = some (min INFc ((E + 1074) * 4503599627370496 + (q : Int)), decide (INFc ≤ (E + 1074) * 4503599627370496 + (q : Int)) || l) := by
 rw [nj0]
 unfold INFc
 by_cases c : (q : Int) = 9007199254740992
 ·rw [if_pos c, if_pos c, c, if_neg (by omega)]
  by_cases d : E + 1 > 971
  ·rw [if_pos d, Int.min_eq_left (by omega), decide_eq_true (by omega), Bool.true_or]
  have := put_w (E := E + 1) (q := 4503599627370496) (by omega) (by omega) (by omega) (by omega)
  rw [if_neg d, show ((9007199254740992 : Int) / 2) = ((4503599627370496 : Nat) : Int) by decide, this, decide_eq_false (by omega), Bool.false_or, Int.min_eq_right (by omega)]
  congr 2; omega
 rw [if_neg c, if_neg c]
 by_cases s : (q : Int) < 4503599627370496
 ·rw [if_pos s, hs (by omega), decide_eq_false (by omega), Bool.false_or, Int.min_eq_right (by omega)]
  congr 2; omega
 rw [if_neg s]
 by_cases d : E > 971
 ·rw [if_pos d, Int.min_eq_left (by omega), decide_eq_true (by omega), Bool.true_or]
 rw [if_neg d, put_w h0 (by omega) (by omega) hq, decide_eq_false (by omega), Bool.false_or, Int.min_eq_right (by omega)]
theorem nj_case (k : Nat) (E q : Int) (l : Bool) (h0 : -1074 ≤ E) (h1 : E ≤ 300000) : (if q = 9007199254740992 then round_amount_nearest.j0 k (wrap64 (E + 1)) (q / 2) l else round_amount_nearest.j0 k E q l) = round_amount_nearest.j0 k (if q = 9007199254740992 then E + 1 else E) (if q = 9007199254740992 then q / 2 else q) l := by
 rw [show wrap64 (E + 1) = E + 1 by unfold wrap64; omega]
 split <;> rfl
theorem mx_eq (a b : Int) : mx a b = max a b := by
 unfold mx; split <;> omega
theorem expI_small {v : Nat} {e : Int} (z : v ≠ 0) (h : rndI v e (expI v e) < 4503599627370496) : expI v e = -1074 := by
 have := rndI_ge (v := v) (e := e) z
 unfold expI at *
 by_cases c : topI v e - 53 ≤ -1074
 ·omega
 rw [Int.max_eq_left (by omega)] at h; omega
theorem expI_le (v : Nat) (e : Int) : rndI v e (expI v e) ≤ 9007199254740992 := by
 have := rndI_le (v := v) (e := e) (E := expI v e) (m := 53) (by unfold expI topI; omega)
 exact Nat.le_trans this (by decide)
theorem nearest_eq (v : Nat) (e : Int) (k : Nat) (hv : v < big) (e0 : -200000 ≤ e) (e1 : e ≤ 200000) (hk : 100000000 ≤ k) : round_amount_nearest.f k (ofN v) e = some (mbI v e, lsI v e) := by
 have hb := big_lt_iff.1 hv
 unfold round_amount_nearest.f mbI lsI
 rw [top_eq v e k hv (by omega) (by omega) hk, bind_s, zero_eq, bind_s]
 by_cases z : v = 0
 ·rw [if_pos (decide_eq_true z), if_pos z, if_pos z]
 rw [if_neg (by rw [decide_eq_true_iff]; exact z), if_neg z, if_neg z]
 by_cases c1 : 1024 < topI v e
 ·rw [if_pos c1, if_pos c1, if_pos c1]; rfl
 rw [if_neg c1, if_neg c1, if_neg c1]
 by_cases c2 : topI v e < -1074
 ·rw [if_pos c2, if_pos c2, if_pos c2]
 rw [if_neg c2, if_neg c2, if_neg c2, show wrap64 (topI v e - 53) = topI v e - 53 by unfold wrap64; omega, mx_eq]
 show (round_amount_at.f k (ofN v) e (expI v e)).bind _ = _
 have l0 : -1074 ≤ expI v e := by unfold expI; omega
 have l1 : expI v e ≤ 971 := by unfold expI; omega
 rw [at_eq v e (expI v e) k hv (by omega) (by omega) (by omega) (by omega) (by unfold expI topI; omega) hk, bind_s]
 have sm := expI_small (e := e) z
 have le := expI_le v e
 obtain ⟨k, rfl⟩ : ∃ j, k = j + 1 := ⟨k - 1, by omega⟩
 have := nearest_j0 k (expI v e) (rndI v e (expI v e)) (lostI v e (expI v e)) l0 (by omega) le sm
 exact (nj_case (k + 1) (expI v e) _ _ l0 (by omega)).trans this
end Go.Proofs.YtjnfipkbgmdpaaaDoor.Nf

namespace Go.Proofs.YtjnfipkbgmdpaaaDoor.Nf
open Go.RowKit Go.Proofs.YtjnfipkbgmdpaaaDoor.PAll Go.Proofs.YtjnfipkbgmdpaaaDoorW.PrintWords Go.Proofs.YtjnfipkbgmdpaaaDoorW.PrintLast Go.Proofs.YtjnfipkbgmdpaaaDoorW.PrintMore Go.Proofs.YtjnfipkbgmdpaaaDoor.Nm
set_option linter.unusedVariables false
set_option linter.unusedSimpArgs false
def KK : Nat := (-1074 - lowE).toNat
theorem KK_eq : (KK : Int) = -1074 - lowE := by unfold KK lowE; omega
theorem KK_2 : 2 ≤ KK := by have := KK_eq; unfold lowE at this; omega
theorem rnd_scale (v j : Nat) {n : Nat} (hn : 1 ≤ n) : rnd (v * 2 ^ j) (n + j) = rnd v n := by
 have l := Nat.mod_lt v (two_pow_pos' n)
 have e := Nat.div_add_mod v (2 ^ n)
 have p := two_pow_pos' j
 have e2 : v * 2 ^ j = v / 2 ^ n * 2 ^ (n + j) + v % 2 ^ n * 2 ^ j := by
  rw [Nat.pow_add, ← Nat.mul_assoc, ← Nat.add_mul, Nat.mul_comm (v / 2 ^ n), e]
 have l2 : v % 2 ^ n * 2 ^ j < 2 ^ (n + j) := by
  rw [Nat.pow_add]; exact Nat.mul_lt_mul_of_pos_right l p
 rw [e2, rnd_of (by omega) l2, rnd_char v hn]
 congr 1
 have c1 : 2 ^ (n + j) < 2 * (v % 2 ^ n * 2 ^ j) ↔ 2 ^ n < 2 * (v % 2 ^ n) := by
  rw [Nat.pow_add, ← Nat.mul_assoc]; exact Nat.mul_lt_mul_right p
 have c2 : 2 * (v % 2 ^ n * 2 ^ j) = 2 ^ (n + j) ↔ 2 * (v % 2 ^ n) = 2 ^ n := by
  rw [Nat.pow_add, ← Nat.mul_assoc]; exact Nat.mul_right_cancel_iff p
 simp only [c1, c2]
theorem am_shl {v : Nat} {e E : Int} (h : lowE ≤ E) (h2 : E ≤ e) : am v e = v * 2 ^ (e - E).toNat * 2 ^ (E - lowE).toNat := by
 unfold am
 rw [Nat.mul_assoc, ← Nat.pow_add]
 congr 2; omega
theorem rndI_am {v : Nat} {e E : Int} (h : lowE ≤ e) (h2 : lowE < E) : rndI v e E = rnd (am v e) (E - lowE).toNat := by
 unfold rndI
 by_cases c : E ≤ e
 ·rw [if_pos c, am_shl (Int.le_of_lt h2) c, rnd_mul _ (by omega)]
 rw [if_neg c, show (E - lowE).toNat = (E - e).toNat + (e - lowE).toNat by omega]
 unfold am
 rw [rnd_scale _ _ (by omega)]
theorem lostI_am {v : Nat} {e E : Int} (h : lowE ≤ e) (h2 : lowE < E) : lostI v e E = decide (am v e % 2 ^ (E - lowE).toNat ≠ 0) := by
 unfold lostI
 by_cases c : E ≤ e
 ·rw [if_pos c, am_shl (Int.le_of_lt h2) c, Nat.mul_mod_left]; rfl
 rw [if_neg c, show (E - lowE).toNat = (E - e).toNat + (e - lowE).toNat by omega]
 unfold am
 rw [Nat.pow_add, Nat.mul_mod_mul_right, Bool.eq_iff_iff, decide_eq_true_iff, decide_eq_true_iff]
 have p := two_pow_pos' (e - lowE).toNat
 refine not_congr ⟨fun c => by rw [c, Nat.zero_mul], fun c => ?_⟩
 rcases Nat.mul_eq_zero.1 c with c | c
 ·exact c
 omega
theorem sh_eq {v : Nat} {e : Int} (z : v ≠ 0) (h : lowE ≤ e) : shA KK (am v e) = (expI v e - lowE).toNat := by
 have b := am_bl z h
 have k := KK_eq
 unfold shA expI topI
 unfold lowE at *
 omega
theorem am_small {v : Nat} {e : Int} (z : v ≠ 0) (h : lowE ≤ e) (c : topI v e < -1074) : am v e < 2 ^ (KK - 1) := by
 rw [← bl_le_iff]
 have b := am_bl z h
 have k := KK_eq
 unfold topI at c
 unfold lowE at *
 omega
theorem rnd_less {A n : Nat} (hn : 1 ≤ n) (h : A < 2 ^ (n - 1)) : rnd A n = 0 := by
 have e : 2 ^ n = 2 ^ (n - 1) * 2 := by rw [← Nat.pow_succ]; congr 1; omega
 have := rnd_of (m := 0) (n := n) (r := A) hn (by omega)
 rw [Nat.zero_mul, Nat.zero_add, Nat.zero_add] at this
 rw [this, if_neg (by omega)]
theorem am_zero (e : Int) : am 0 e = 0 := Nat.zero_mul _
theorem cd_eq {v : Nat} {e : Int} (z : v ≠ 0) (h : lowE ≤ e) : ((cdA KK (am v e) : Nat) : Int) = codeI v e := by
 have k := KK_eq
 have l : lowE < expI v e := by unfold expI; unfold lowE; omega
 unfold cdA codeI
 rw [sh_eq z h, rndI_am h l]
 generalize rnd (am v e) (expI v e - lowE).toNat = q
 have : (((expI v e - lowE).toNat - KK : Nat) : Int) = expI v e + 1074 := by
  have : -1074 ≤ expI v e := by unfold expI; omega
  unfold lowE at *; omega
 omega
theorem code_big {v : Nat} {e : Int} (z : v ≠ 0) (h : lowE ≤ e) (c : 1024 < topI v e) : INFc ≤ codeI v e := by
 have := rndI_ge (e := e) z
 unfold codeI INFc
 rw [show expI v e = topI v e - 53 by unfold expI; omega]
 omega
theorem code_none {v : Nat} {e : Int} (z : v ≠ 0) (h : lowE ≤ e) (c : topI v e < -1074) : codeI v e = 0 := by
 rw [← cd_eq z h]
 have s := sh_eq z h
 have k := KK_eq
 have : expI v e = -1074 := by unfold expI; omega
 rw [this, ← k, Int.toNat_natCast] at s
 unfold cdA
 rw [s, rnd_less (by have := KK_2; omega) (am_small z h c), Nat.sub_self]
 rfl
theorem INn_eq : ((INn : Nat) : Int) = INFc := rfl
theorem mb_eq (v : Nat) {e : Int} (h : lowE ≤ e) : mbI v e = ((mbA KK (am v e) : Nat) : Int) := by
 unfold mbI mbA
 by_cases z : v = 0
 ·subst z; rw [if_pos rfl, am_zero, cdA_zero]; rfl
 rw [if_neg z]
 have cd := cd_eq z h
 have i := INn_eq
 have c0 : (0 : Int) ≤ INFc := by decide
 by_cases c1 : 1024 < topI v e
 ·have := code_big z h c1
  rw [if_pos c1]; omega
 rw [if_neg c1]
 by_cases c2 : topI v e < -1074
 ·have := code_none z h c2
  rw [if_pos c2]; omega
 rw [if_neg c2]; omega
theorem ls_eq (v : Nat) {e : Int} (h : lowE ≤ e) : lsI v e = true ↔ lsA KK (am v e) := by
 unfold lsI lsA
 by_cases z : v = 0
 ·subst z
  rw [if_pos rfl, am_zero, cdA_zero, Nat.zero_mod]
  refine ⟨fun c => (by cases c), fun c => ?_⟩
  rcases c with c | c
  ·exact absurd c (by decide)
  exact absurd rfl c
 rw [if_neg z]
 have cd := cd_eq z h
 have i := INn_eq
 by_cases c1 : 1024 < topI v e
 ·have := code_big z h c1
  rw [if_pos c1]; exact ⟨fun _ => .inl (by omega), fun _ => rfl⟩
 rw [if_neg c1]
 by_cases c2 : topI v e < -1074
 ·rw [if_pos c2]
  refine ⟨fun _ => .inr ?_, fun _ => rfl⟩
  have s := sh_eq z h
  have k := KK_eq
  rw [show expI v e = -1074 by unfold expI; omega, ← k, Int.toNat_natCast] at s
  have a := am_small z h c2
  have : 2 ^ (KK - 1) ≤ 2 ^ KK := Nat.pow_le_pow_right (by decide) (Nat.sub_le _ _)
  rw [s, Nat.mod_eq_of_lt (Nat.lt_of_lt_of_le a this)]
  exact am_pos z e
 rw [if_neg c2, Bool.or_eq_true, decide_eq_true_iff, lostI_am h (by unfold expI; unfold lowE; omega), decide_eq_true_iff, ← sh_eq z h]
 exact or_congr (by omega) Iff.rfl
theorem ty_eq (v : Nat) {e : Int} (h : lowE ≤ e) : tinyI v e = true ↔ v ≠ 0 ∧ tyA KK (am v e) := by
 unfold tinyI tyA
 by_cases z : v = 0
 ·subst z
  rw [if_pos rfl]
  exact ⟨fun c => (by cases c), fun c => absurd rfl c.1⟩
 rw [if_neg z]
 have k := KK_eq
 have k2 := KK_2
 have kk : (-1075 - lowE).toNat = KK - 1 := by unfold lowE at *; omega
 have b := am_bl z h
 by_cases c : topI v e = -1022
 ·rw [if_pos c, decide_eq_true_iff, rndI_am h (by decide), kk]
  exact ⟨fun d => ⟨z, d⟩, fun d => d.2⟩
 rw [if_neg c, decide_eq_true_iff]
 refine ⟨fun d => ⟨z, ?_⟩, fun d => ?_⟩
 ·refine Nat.lt_of_le_of_lt (rnd_le (m := 4503599627370496) (by omega) ?_) (by decide)
  rw [← P52, ← Nat.pow_add]
  refine Nat.le_of_lt (bl_le_iff.1 ?_)
  unfold topI at d; unfold lowE at *; omega
 refine Classical.byContradiction fun f => ?_
 have g : 9007199254740992 ≤ rnd (am v e) (KK - 1) := by
  refine rnd_ge ?_
  rw [← P53, ← Nat.pow_add]
  refine Nat.not_lt.1 fun x => ?_
  rw [← bl_le_iff] at x
  unfold topI at *; unfold lowE at *; omega
 omega
end Go.Proofs.YtjnfipkbgmdpaaaDoor.Nf

namespace Go.Proofs.YtjnfipkbgmdpaaaDoor.Nf
open Go.RowKit Go.Proofs.YtjnfipkbgmdpaaaDoor.PAll Go.Proofs.YtjnfipkbgmdpaaaDoorW.PrintWords Go.Proofs.YtjnfipkbgmdpaaaDoorW.PrintLast Go.Proofs.YtjnfipkbgmdpaaaDoorW.PrintMore Go.Proofs.YtjnfipkbgmdpaaaDoor.Nm
set_option linter.unusedVariables false
set_option linter.unusedSimpArgs false
open Classical in
noncomputable def flA (A : Nat) : Int := if lsA KK A then (if mbA KK A = INn then 20 else if A ≠ 0 ∧ tyA KK A then 24 else 16) else 0
def nbZ (Z : Int) : Int := ((mbA KK Z.natAbs : Nat) : Int) + sX (decide (Z < 0))
theorem mbA_le (K A : Nat) : mbA K A ≤ INn := Nat.min_le_left _ _
theorem vl_sg (s : Bool) (l : List Int) (e : Int) : vl s l e = sg s (am (val l) e) := by unfold vl; rw [Vz_am]
theorem sgn_vl (s : Bool) (l : List Int) (e : Int) : decide (vl s l e < 0) = (s && decide (val l ≠ 0)) := by
 rw [vl_sg]
 by_cases z : val l = 0
 ·rw [z, am_zero, sg_zero]; cases s <;> rfl
 rw [sg_neg_iff s (am_pos z e), decide_eq_true z, Bool.and_true]
theorem nbZ_vl (s : Bool) (l : List Int) (e : Int) : nbZ (vl s l e) = ((mbA KK (am (val l) e) : Nat) : Int) + sX (s && decide (val l ≠ 0)) := by
 unfold nbZ; rw [sgn_vl, vl_abs]
theorem ng_small {m : Nat} (h : m ≤ INn) : Nb.ng (m : Int) = (m : Int) + 9223372036854775808 := by
 unfold Nb.ng; exact if_pos (by unfold INn at h; omega)
theorem near_j0 (k : Nat) (s : Bool) (l : List Int) (e e' : Int) (v m : Nat) (fl : Int) (hm : m ≤ INn) : round_near.j0 (k + 1) s l e (ofN v) e' (m : Int) fl = some ((m : Int) + sX (s && decide (v ≠ 0)), fl) := by
 show (if s = true then _ else _) = _
 cases s with
 | false => rw [if_neg (by decide), Bool.false_and]; show _ = some ((m : Int) + 0, fl); rw [Int.add_zero]
 | true =>
  rw [if_pos rfl, zero_eq, bind_s, Bool.true_and]
  by_cases z : v = 0
  ·rw [if_pos (decide_eq_true z), decide_eq_false (not_not_intro z)]; show _ = some ((m : Int) + 0, fl); rw [Int.add_zero]
  rw [if_neg (by rw [decide_eq_true_iff]; exact z), Nb.neg_eq ⟨by omega, by unfold INn at hm; omega⟩, bind_s, ng_small hm, decide_eq_true z]; rfl
theorem of_eq (s : Bool) (l : List Int) (e : Int) (k : Nat) (w : Wl l) (h : fits (val l) e = true) (hk : 100000000000000000 ≤ k) : round_of.f k s l e = some (ofN (val l), e) := by
 have f := fits_iff.1 h
 have wl := w.2
 unfold round_of.f
 rw [Norm_eq l k w.1 w.2 (by omega), if_pos f.1, bind_s]
theorem low_le {e : Int} (h : -300000 ≤ e) : lowE ≤ e := by unfold lowE; omega
theorem mb_inf {v : Nat} {e : Int} (h : lowE ≤ e) : mbI v e = 9218868437227405312 ↔ mbA KK (am v e) = INn := by
 rw [mb_eq v h]; show _ = ((INn : Nat) : Int) ↔ _; omega
theorem near_eq (s : Bool) (l : List Int) (e : Int) (k : Nat) (w : Wl l) (h : fits (val l) e = true) (hk : 100000000000000000 ≤ k) : round_near.f k s l e = some (nbZ (vl s l e), flA (vl s l e).natAbs) := by
 have f := fits_iff.1 h
 obtain ⟨k, rfl⟩ : ∃ j, k = j + 1 := ⟨k - 1, by omega⟩
 unfold round_near.f
 rw [of_eq s l e (k + 1) w h hk, bind_s]
 show (round_amount_nearest.f (k + 1) (ofN (val l)) e).bind _ = _
 have le := low_le (e := e) (by omega)
 rw [nearest_eq (val l) e (k + 1) f.1 (by omega) (by omega) (by omega), bind_s]
 show (if lsI (val l) e = true then (if mbI (val l) e = 9218868437227405312 then round_near.j0 (k + 1) s l e (ofN (val l)) e (mbI (val l) e) 20 else _) else round_near.j0 (k + 1) s l e (ofN (val l)) e (mbI (val l) e) 0) = _
 rw [tiny_eq (val l) e (k + 1) f.1 (by omega) (by omega) (by omega), bind_s, nbZ_vl, vl_abs]
 have ls := ls_eq (val l) le
 have ty := ty_eq (val l) le
 have mi := mb_inf (v := val l) le
 have mb := mb_eq (val l) le
 have am0 : val l ≠ 0 ↔ am (val l) e ≠ 0 := ⟨fun z => am_pos z e, fun z c => z (by rw [c, am_zero])⟩
 have J := fun fl => near_j0 k s l e e (val l) (mbA KK (am (val l) e)) fl (mbA_le _ _)
 unfold flA
 by_cases c1 : lsA KK (am (val l) e)
 ·rw [if_pos (ls.2 c1), if_pos c1]
  by_cases c2 : mbA KK (am (val l) e) = INn
  ·rw [if_pos (mi.2 c2), if_pos c2, mb, J]
  rw [if_neg (fun c => c2 (mi.1 c)), if_neg c2, mb]
  by_cases c3 : am (val l) e ≠ 0 ∧ tyA KK (am (val l) e)
  ·rw [if_pos (ty.2 ⟨am0.2 c3.1, c3.2⟩), if_pos c3, show Go.bits .or .u8 16 8 = 24 by decide, J]
  rw [if_neg (fun c => c3 ⟨am0.1 (ty.1 c).1, (ty.1 c).2⟩), if_neg c3, J]
 rw [if_neg (fun c => c1 (ls.1 c)), if_neg c1, mb, J]
noncomputable def nearS (s : Bool) (l : List Int) (e : Int) : Int × Int × Int := if fits (val l) e = true then (nbZ (vl s l e), flA (vl s l e).natAbs, 0) else (0, 0, 2)
theorem Check_eq (s : Bool) (l : List Int) (e : Int) (k : Nat) (w : Wl l) (hk : 100000000000000000 ≤ k) : dyad_Check.f k s l e = some (if fits (val l) e = true then 0 else 2) := by
 unfold dyad_Check.f
 rw [right_eq s l e k w.1 w.2 hk, bind_s]
 by_cases h : fits (val l) e = true
 ·rw [h]; rfl
 rw [Bool.eq_false_iff.2 h]; rfl
theorem Near_eq (s : Bool) (l : List Int) (e : Int) (k : Nat) (w : Wl l) (hk : 100000000000000000 ≤ k) : round_Near.f k s l e = some (nearS s l e) := by
 unfold round_Near.f nearS
 rw [Check_eq s l e k w hk, bind_s]
 by_cases h : fits (val l) e = true
 ·rw [if_pos h, if_pos rfl, near_eq s l e k w h hk, bind_s, if_pos h]
 rw [if_neg h, if_neg (by decide), if_neg h]
end Go.Proofs.YtjnfipkbgmdpaaaDoor.Nf

namespace Go.Proofs.YtjnfipkbgmdpaaaDoor.Nf
open Go.RowKit Go.Proofs.YtjnfipkbgmdpaaaDoor.PAll Go.Proofs.YtjnfipkbgmdpaaaDoorW.PrintWords Go.Proofs.YtjnfipkbgmdpaaaDoorW.PrintLast Go.Proofs.YtjnfipkbgmdpaaaDoorW.PrintMore Go.Proofs.YtjnfipkbgmdpaaaDoor.Nm
set_option linter.unusedVariables false
set_option linter.unusedSimpArgs false
theorem nb_w (Z : Int) : Nb.W64 (nbZ Z) := by
 have := mbA_le KK Z.natAbs
 unfold INn at this
 unfold Nb.W64 nbZ sX
 split <;> omega
end Go.Proofs.YtjnfipkbgmdpaaaDoor.Nf

namespace Go.Proofs.YtjnfipkbgmdpaaaDoor.Nf
open Go.RowKit Go.Proofs.YtjnfipkbgmdpaaaDoor.PAll Go.Proofs.YtjnfipkbgmdpaaaDoorW.PrintWords Go.Proofs.YtjnfipkbgmdpaaaDoorW.PrintLast Go.Proofs.YtjnfipkbgmdpaaaDoorW.PrintMore Go.Proofs.YtjnfipkbgmdpaaaDoor.Nm
set_option linter.unusedVariables false
set_option linter.unusedSimpArgs false
theorem flA_I (v : Nat) {e : Int} (h : lowE ≤ e) : flA (am v e) = if lsI v e = true then (if mbI v e = INFc then 20 else if tinyI v e = true then 24 else 16) else 0 := by
 have ls := ls_eq v h
 have ty := ty_eq v h
 have mi : mbI v e = INFc ↔ mbA KK (am v e) = INn := mb_inf h
 have am0 : v ≠ 0 ↔ am v e ≠ 0 := ⟨fun z => am_pos z e, fun z c => z (by rw [c, am_zero])⟩
 unfold flA
 by_cases c1 : lsI v e = true
 ·rw [if_pos c1, if_pos (ls.1 c1)]
  by_cases c2 : mbI v e = INFc
  ·rw [if_pos c2, if_pos (mi.1 c2)]
  rw [if_neg c2, if_neg (fun c => c2 (mi.2 c))]
  by_cases c3 : tinyI v e = true
  ·rw [if_pos c3, if_pos ⟨am0.1 (ty.1 c3).1, (ty.1 c3).2⟩]
  rw [if_neg c3, if_neg (fun c => c3 (ty.2 ⟨am0.2 c.1, c.2⟩))]
 rw [if_neg c1, if_neg (fun c => c1 (ls.2 c))]
theorem wl_one {v : Int} (h0 : 0 ≤ v) (h1 : v < 18446744073709551616) : Wl [v] := ⟨ws_one h0 h1, len_one v⟩
theorem near_small (v : Nat) (e : Int) (k : Nat) (hv : v < 18446744073709551616) (e0 : -32768 ≤ e) (e1 : e ≤ 32768) (hk : 100000000000000000 ≤ k) : round_Near.f k false [(v : Int)] e = some (mbI v e, (if lsI v e = true then (if mbI v e = INFc then 20 else if tinyI v e = true then 24 else 16) else 0), 0) := by
 have le := low_le (e := e) (by omega)
 have val1 : val [(v : Int)] = v := by rw [val_one, Int.toNat_natCast]
 rw [Near_eq false [(v : Int)] e k (wl_one (by omega) (by omega)) hk]
 unfold nearS
 rw [val1, if_pos (fits_iff.2 ⟨word_big hv, e0, e1⟩), nbZ_vl, vl_abs, val1, flA_I v le, mb_eq v le, Bool.false_and]
 show some (((mbA KK (am v e) : Nat) : Int) + 0, _, _) = _
 rw [Int.add_zero]
theorem bl_1 : bl 1 = 1 := bl_unique (m := 0) (by decide) (by decide)
theorem bl_3 : bl 3 = 2 := bl_unique (m := 1) (by decide) (by decide)
theorem l1 (k : Nat) (hk : 100000000000000000 ≤ k) : round_Near.f k false [1] (-1075) = some (0, 24, 0) := by
 have := near_small 1 (-1075) k (by decide) (by decide) (by decide) hk
 refine this.trans ?_
 unfold lsI tinyI mbI codeI expI topI
 rw [bl_1]
 decide
theorem l2 (k : Nat) (hk : 100000000000000000 ≤ k) : round_Near.f k false [1] 1024 = some (9218868437227405312, 20, 0) := by
 have := near_small 1 1024 k (by decide) (by decide) (by decide) hk
 refine this.trans ?_
 unfold lsI tinyI mbI codeI expI topI
 rw [bl_1]
 decide
theorem l3 (k : Nat) (hk : 100000000000000000 ≤ k) : round_Near.f k false [3] (-1) = some (4609434218613702656, 0, 0) := by
 have := near_small 3 (-1) k (by decide) (by decide) (by decide) hk
 refine this.trans ?_
 unfold lsI tinyI mbI codeI expI topI
 rw [bl_3]
 decide
end Go.Proofs.YtjnfipkbgmdpaaaDoor.Nf

namespace Go.Proofs.YtjnfipkbgmdpaaaDoor.Nf
open Go.RowKit Go.Proofs.YtjnfipkbgmdpaaaDoor.PAll Go.Proofs.YtjnfipkbgmdpaaaDoorW.PrintWords Go.Proofs.YtjnfipkbgmdpaaaDoorW.PrintLast Go.Proofs.YtjnfipkbgmdpaaaDoorW.PrintMore Go.Proofs.YtjnfipkbgmdpaaaDoor.Nm
set_option linter.unusedVariables false
set_option linter.unusedSimpArgs false
theorem nb_cases (Z : Int) : (Z < 0 ∧ nbZ Z = ((mbA KK Z.natAbs : Nat) : Int) + 9223372036854775808) ∨ (0 ≤ Z ∧ nbZ Z = ((mbA KK Z.natAbs : Nat) : Int)) := by
 unfold nbZ sX
 by_cases h : Z < 0
 ·rw [if_pos (decide_eq_true h)]; exact .inl ⟨h, rfl⟩
 rw [if_neg (by rw [decide_eq_true_iff]; exact h), Int.add_zero]; exact .inr ⟨by omega, rfl⟩
theorem mb_top (A : Nat) : ((mbA KK A : Nat) : Int) ≤ 9218868437227405312 := by
 have := mbA_le KK A
 unfold INn at this; omega
theorem ng_nb {Z : Int} (h : Z ≠ 0) : Nb.ng (nbZ Z) = nbZ (-Z) := by
 have b := mb_top Z.natAbs
 have e : (-Z).natAbs = Z.natAbs := Int.natAbs_neg Z
 unfold Nb.ng
 rcases nb_cases Z with ⟨a, c⟩ | ⟨a, c⟩ <;> rcases nb_cases (-Z) with ⟨a', c'⟩ | ⟨a', c'⟩ <;> rw [e] at c'
 ·omega
 ·rw [c, c', if_neg (by omega)]; omega
 ·rw [c, c', if_pos (by omega)]
 omega
end Go.Proofs.YtjnfipkbgmdpaaaDoor.Nf

namespace Go.Proofs.YtjnfipkbgmdpaaaDoor.Nf
open Go.RowKit Go.Proofs.YtjnfipkbgmdpaaaDoor.PAll Go.Proofs.YtjnfipkbgmdpaaaDoorW.PrintWords Go.Proofs.YtjnfipkbgmdpaaaDoorW.PrintLast Go.Proofs.YtjnfipkbgmdpaaaDoorW.PrintMore Go.Proofs.YtjnfipkbgmdpaaaDoor.Nm
set_option linter.unusedVariables false
set_option linter.unusedSimpArgs false
theorem bl_mul_le {v n m : Nat} (h : bl v + n ≤ m) : bl (v * 2 ^ n) ≤ m := by
 rw [bl_le_iff]; exact pow_le_mul h
theorem from_ok {x : Int} (h : Nb.isFin x) : (fromS x).2.2.2 = 0 := by unfold fromS; rw [if_pos h]
theorem from_no {x : Int} (h : ¬ Nb.isFin x) : fromS x = (false, [], 0, 5) := by unfold fromS; rw [if_neg h]
theorem from_rs {x : Int} (hx : Nb.W64 x) (h : Nb.isFin x) : Rs (fromS x).2.1 (fromS x).2.2.1 := by
 have f := from_fits hx h
 refine rs_fits ?_ ?_ f
 ·unfold fromS; rw [if_pos h]
  exact (wl_cf (fneg x) (Nb.expo x) (by have := Nb.mant_bd hx; have := len_word (v := (Nb.mant x).toNat) (by omega); omega)).1
 unfold fromS; rw [if_pos h]
 exact (wl_cf (fneg x) (Nb.expo x) (by have := Nb.mant_bd hx; have := len_word (v := (Nb.mant x).toNat) (by omega); omega)).2
end Go.Proofs.YtjnfipkbgmdpaaaDoor.Nf

namespace Go.Proofs.YtjnfipkbgmdpaaaDoor.Nf
open Go.RowKit Go.Proofs.YtjnfipkbgmdpaaaDoor.PAll Go.Proofs.YtjnfipkbgmdpaaaDoorW.PrintWords Go.Proofs.YtjnfipkbgmdpaaaDoorW.PrintLast Go.Proofs.YtjnfipkbgmdpaaaDoorW.PrintMore Go.Proofs.YtjnfipkbgmdpaaaDoor.Nm
set_option linter.unusedVariables false
set_option linter.unusedSimpArgs false
def hC (c : Nat) : Nat := 2 ^ (KK + tC c - 1)
theorem room_small {V e : Int} {n : Nat} (h : bl V.natAbs ≤ n) (hn : n ≤ 5000) (h0 : -5000 ≤ e) (h1 : e ≤ 5000) : fits (val (cz V e).2.1) (cz V e).2.2 = true ∧ Wl (cz V e).2.1 := by
 have b : V.natAbs < big := big_lt_iff.2 (by omega)
 have lb := len_big b
 refine ⟨?_, wl_cz e (by omega)⟩
 unfold cz
 by_cases z : V.natAbs = 0
 ·rw [z, cf_zero]; exact fits_iff.2 ⟨by rw [val_nil]; exact big_lt_iff.2 (by rw [bl_zero]; omega), by show (-32768 : Int) ≤ 0; decide, by show (0 : Int) ≤ 32768; decide⟩
 have t := tz_lt z
 rw [cf_ne z]
 refine fits_iff.2 ⟨?_, ?_, ?_⟩
 ·show val (ofN (od V.natAbs)) < big
  rw [val_ofN]; exact Nat.lt_of_le_of_lt (od_le _) b
 ·show -32768 ≤ e + (tz V.natAbs : Int); omega
 show e + (tz V.natAbs : Int) ≤ 32768; omega
end Go.Proofs.YtjnfipkbgmdpaaaDoor.Nf
